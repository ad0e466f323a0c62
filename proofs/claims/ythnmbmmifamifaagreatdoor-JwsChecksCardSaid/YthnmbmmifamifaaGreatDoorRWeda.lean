import Derived.Test.YthnmbmmifamifaaGreatDoorRW0
import Derived.Test.YthnmbmmifamifaaGreatDoorRAw
import Derived.Test.YthnmbmmifamifaaGreatDoorGkFman
import Derived.Test.YthnmbmmifamifaaGreatDoorRWlib
import Derived.Test.YthnmbmmifamifaaGreatDoorRWmodn
import Derived.Test.YthnmbmmifamifaaGreatDoorRWnata
set_option linter.unusedVariables false
set_option linter.unusedSimpArgs false
set_option linter.unusedSectionVars false
set_option maxRecDepth 20000
set_option maxHeartbeats 20000000
namespace Go.Proofs
open Go Go.RowKit Go.Gk
open Go.Gk renaming RP -> O, Rds -> N, Ret -> K, ar -> J, e32 -> Y, e8 -> M, own -> W, pB -> Q, red -> U, vB -> P, vI -> R
open Go.Gk.OE renaming bx -> X
open Go.Gk.Rds renaming cons -> V
theorem D3 {f:World} {a0:L00} {j:Value} {r:L8}
  (h:F.Wj a0=some r) (p:O [] f M j a0):Calls Tryz.prog 52 #[j] f (K fun v w=>St [] f w [W Y v r]):=by
 refine ca1 10 Tryz.func52 Z Z Z<|have hS:=St.r f;?_
 unfold F.Wj at h
 exact wk
theorem sF {d:World} (a:L8) {r:L8}
  (h:F.VN a=some r) (c:a.length=8):Calls Tryz.prog 131 #[.agg (Y.fl a).toArray] d (K fun v w=>St [] d w [W Y v r]):=by
 refine dP 4 Tryz.func131 Z Z Z<|have b:=St.r d;eZ [(0,.agg (Y.fl a).toArray)] Z ?_
 unfold F.VN at h
 refine gl4<|mZ (rF (cs:=Y.fl a) Z Z b) Z fun f w b=>J 1 Z<|gl2<|aQ (SP u150 gG Z) Z ?_
 replace b:=b.bxOwn (i:=0) rfl c rfl rfl
 refine J 1 Z<|gl3<|iY ?_
 cases h
 exact gc Z Z (b.j [0] Z Z)
theorem Gy {f:World}  {r:L8}
  (h:F.UM =some r) (hT:TB [] f):Calls Tryz.prog 128 #[] f (K fun v w=>St [] f w [W Y v r]):=by
 refine dP 3 Tryz.func128 Z Z Z<|have hS:=St.r f;jy [] I ?_
 unfold F.UM at h
 exact wk
theorem mX {f:World} {a0 a1:L8} {j p:Value} {r:L8}
  (h:F.T3 a0 a1=some r) (hT:TB [] f) (u:O [] f Y j a0) (A:O [] f Y p a1):Calls Tryz.prog 137 #[j,p] f (K fun v w=>St [] f w [W Y v r]):=by
 refine ca2 15 Tryz.func137 Z Z Z<|have hS:=St.r f;?_
 unfold F.T3 at h
 exact wk
theorem mS {f:World} {a0 a1:L8} {j p:Value} {r:L8}
  (h:F.Uz a0 a1=some r) (hT:TB [] f) (u:O [] f Y j a0) (A:O [] f Y p a1):Calls Tryz.prog 55 #[j,p] f (K fun v w=>St [] f w [W Y v r]):=by
 refine ca2 15 Tryz.func55 Z Z Z<|have hS:=St.r f;?_
 unfold F.Uz at h
 exact wk
theorem He {f:World}  {r:L8}
  (h:F.Wm =some r) (hT:TB [] f):Calls Tryz.prog 140 #[] f (K fun v w=>St [] f w [W Y v r]):=by
 refine dP 3 Tryz.func140 Z Z Z<|have hS:=St.r f;jy [] I ?_
 unfold F.Wm at h
 exact wk
theorem L2 {f:World} {a0 a1:L8} {j p:Value} {r:L8}
  (h:F.Um a0 a1=some r) (hT:TB [] f) (u:O [] f Y j a0) (A:O [] f Y p a1):Calls Tryz.prog 139 #[j,p] f (K fun v w=>St [] f w [W Y v r]):=by
 refine ca2 15 Tryz.func139 Z Z Z<|have hS:=St.r f;?_
 unfold F.Um at h
 exact wk
theorem BP {f:World} {a0:L8} {j:Value} {r:L8}
  (h:F.YJ a0=some r) (hT:TB [] f) (p:O [] f Y j a0):Calls Tryz.prog 141 #[j] f (K fun v w=>St [] f w [W Y v r]):=by
 refine ca1 12 Tryz.func141 Z Z Z<|have hS:=St.r f;?_
 unfold F.YJ at h
 exact wk
theorem Hq {f:World} {a0 a1:L8} {j p:Value} {r:L8}
  (h:F.ab4 a0 a1=some r) (hT:TB [] f) (u:O [] f Y j a0) (A:O [] f Y p a1):Calls Tryz.prog 207 #[j,p] f (K fun v w=>St [] f w [W Y v r]):=by
 refine ca2 15 Tryz.func207 Z Z Z<|have hS:=St.r f;?_
 unfold F.ab4 at h
 exact wk
theorem Iy {f:World}  {r:L8}
  (h:F.acL =some r) (hT:TB [] f):Calls Tryz.prog 209 #[] f (K fun v w=>St [] f w [W Y v r]):=by
 refine dP 3 Tryz.func209 Z Z Z<|have hS:=St.r f;jy [] I ?_
 unfold F.acL at h
 exact wk
theorem AB {p:World} {a0:L8} {C:Value} (a1:Bool) {r:L8×Bool}
  (h:F.abr a0 a1=some r) (hT:TB [] p) (D:O [] p Y C a0):Calls Tryz.prog 129 #[C,P a1] p (K fun v w=>∃u0:Value,v=.tuple #[u0,P r.2]/\St [] p w [W Y u0 r.1]):=by
 refine ca2 58 Tryz.func129 Z Z Z<|have hS:=St.r p;?_
 unfold F.abr at h
 let j1:=fun j u=>mkJ 7 (F.aaT a1 u) (fun g L w=>∃f,L=[(1,P a1),(7,j),(8,f)]/\St [] p w [W Y f g,W Y j u]) [(7,j)] [W Y j u]
 let j2:=fun f A=>mkJ 8 (F.Xu a1 A) (fun g L w=>L=[(1,P a1),(8,f),(50,P g)]/\St [] p w [W Y f A]) [(8,f)] [W Y f A]
 let j3:=mkJ 11 (F.adj) (fun g L w=>∃B,L=[(8,B)]/\St [] p w [W Y B g]) [] []
 exact wk
theorem EE {f:World} {a0:L00} {u:Value} {r:L8×L8×Bool×Int}
  (h:F.YV a0=some r) (hT:TB [] f) (A:O [] f M u a0):Calls Tryz.prog 51 #[u] f (K fun v w=>∃j p:Value,v=.tuple #[.agg #[j,p,P r.2.2.1],R r.2.2.2]/\St [] f w [W Y j r.1,W Y p r.2.1]):=by
 refine ca1 44 Tryz.func51 Z Z Z<|have hS:=St.r f;?_
 unfold F.YV at h
 exact wk
theorem F9 {f:World}  {r:L8}
  (h:F.aaf =some r) (hT:TB [] f):Calls Tryz.prog 53 #[] f (K fun v w=>St [] f w [W Y v r]):=by
 refine dP 3 Tryz.func53 Z Z Z<|have hS:=St.r f;jy [] I ?_
 unfold F.aaf at h
 exact wk
theorem ms {f:World}  {r:L8×L8×Bool}
  (h:F.acH =some r) (q:TB [] f):Calls Tryz.prog 57 #[] f (K fun v w=>∃g j:Value,v=.agg #[g,j,P r.2.2]/\St [] f w [W Y g r.1,W Y j r.2.1]):=by
 refine dP 8 Tryz.func57 Z Z Z<|have a:=St.r f;jy [] I ?_
 unfold F.acH at h
 refine gl4<|mZ (mx (cs:=[L02,L02,P false]) PZ Z a) Z fun s w a=>gl1<|gV (fun w'=>St [] f w' [X s [L02,L02,P false]]) (fun i=>!([2,5,7].contains i)) gC (fun _ _ _ m=>m.2) (fun _ _ m=>m) (by kernel_rfl)<|have a:=a.drew;show lxE _ _ _ _ _ _ _ [0,1,2,3,4,5,6,7] _ _ from aN a Z Z (fun w d=>uC Tryz.underlying156 om Z Z q11 q11) Z<|aN a Z Z (fun w d=>mH (us:=Y.fl F.U0) u150 Z om (dQ (show F.U0.length=8 from Z) Z) Z (q.ed_baseLimbs.part d.fr (l1:=F.U0) Z)) Z<|aK h fun t n h=>fM a Z Z (by kernel_rfl) Z (sF F.U0 n (show F.U0.length=8 from Z)) Z fun b w k=>have a:=a.p k;have o:=(a.ro 0 Z).one;aN (a.j [1] Z Z) Z Z (fun w d=>uC Tryz.underlying156 om Z Z q11 q11) Z<|aN (a.j [1] Z Z) Z Z (fun w d=>mH (us:=Y.fl F.UW) u150 Z om (dQ (show F.UW.length=8 from Z) Z) Z (q.ed_baseLimbs.part d.fr (l1:=F.UW) Z)) Z<|aK h fun u p h=>fM (a.j [1] Z Z) Z Z (by kernel_rfl) Z (sF F.UW p (show F.UW.length=8 from Z)) Z fun c w k=>have a:=a.p k;have l:=(a.ro 0 Z).one;aN (a.j [2] Z Z) Z Z (fun w d=>ig (vs:=[(0,b,[b]),(1,c,[c])]) (cells:=[b,c,P false]) Z No ⟨(nG o),(nG l),I⟩ Z) Z ?_
 refine mD (a.j [2] Z Z) Z Z (mG (i:=2) (us:=[b,c,P false]) Z RN Z Z Z ⟨(a.ro 1 Z).one,(a.ro 0 Z).one,Z,I⟩ Z a) fun w a=>gf I<|bL<|iY ?_
 cases h
 exact Kl Z ⟨_,Z,zH (us:=[b,c,P false]) Tryz.underlying69 Z RN (a.u 2 Z Z)⟩ ⟨b,c,Z,a.j [1,0] Z Z⟩
theorem mr {f:World} {a0:L8} {j:Value} {r:L8}
  (h:F.Yk a0=some r) (hT:TB [] f) (p:O [] f Y j a0):Calls Tryz.prog 136 #[j] f (K fun v w=>St [] f w [W Y v r]):=by
 refine ca1 5 Tryz.func136 Z Z Z<|have hS:=St.r f;?_
 unfold F.Yk at h
 exact wk
theorem kz {D:World} {E G:L8} {A B:Value} (ab:Bool) {r:L8×L8×L8×L8}
  (h:F.Zf E G ab=some r) (hT:TB [] D) (ah:O [] D Y A E) (aj:O [] D Y B G):Calls Tryz.prog 56 #[.agg #[A,B,P ab]] D (K fun v w=>∃ac ad ae af:Value,v=.agg #[ac,ad,ae,af]/\St [] D w [W Y ac r.1,W Y ad r.2.1,W Y ae r.2.2.1,W Y af r.2.2.2]):=by
 refine ca1 16 Tryz.func56 Z Z Z<|have hS:=St.r D;have hZ:=Fz.r (S:=[]) (w0:=D);?_
 have hTT:TOk [] [] D:=TOk.nil
 have hA:N [] D [U Y B G,U Y A E]:=V (O.q (ai Z) aj) (V (O.q (ai Z) ah) (N.nil))
 have hP:Off [] [U Y B G,U Y A E]:=Off.emp
 unfold F.Zf at h
 let m1c3:=fun (T:L8) (aa:L8) (C:L8) (ag:Nat)=>mkM 1 [(2,[],[],[],[]),(5,[],[],[],[]),(6,[],[],[],[]),(11,[],[],[],[]),(12,[2,5,6,11],[2,5,6,11],[],[]),(13,[2,5,6,11],[12],[],[])] [2,5,6,11,12,13] [13] [(13,[X ag [L02,L02,L02,L02]])] [X ag [L02,L02,L02,L02]] [(2,fun h v x y=>∃p:Value,v=p/\x=[W Y p T]/\y=[]),(5,fun h v x y=>∃u:Value,v=u/\x=[W Y u aa]/\y=[]),(6,fun h v x y=>∃f:Value,v=f/\x=[W Y f ([1]:L8)]/\y=[]),(11,fun h v x y=>∃j:Value,v=j/\x=[W Y j C]/\y=[]),(12,fun h v x y=>∃p:Value,∃u:Value,∃f:Value,∃j:Value,h=[(p,[W Y p T],[]),(u,[W Y u aa],[]),(f,[W Y f ([1]:L8)],[]),(j,[W Y j C],[])]/\v=.agg #[p,u,f,j]/\x=[W Y p T,W Y u aa,W Y f ([1]:L8),W Y j C]/\y=[]),(13,fun h v x y=>∃p:Value,∃u:Value,∃f:Value,∃j:Value,h=[(p,[W Y p T],[]),(u,[W Y u aa],[]),(f,[W Y f ([1]:L8)],[]),(j,[W Y j C],[])]/\v=undef/\x=[W Y p T,W Y u aa,W Y f ([1]:L8),W Y j C,X ag [p,u,f,j]]/\y=[])] []
 exact wk
theorem wM {f:World} {B C D E:L8} {j p u A:Value} {r:L8×L8×L8×L8}
  (h:F.aaY B C D E=some r) (hT:TB [] f) (ab:O [] f Y j B) (ac:O [] f Y p C) (ad:O [] f Y u D) (ae:O [] f Y A E):Calls Tryz.prog 138 #[.agg #[j,p,u,A]] f (K fun v w=>∃G S T aa:Value,v=.agg #[G,S,T,aa]/\St [] f w [W Y G r.1,W Y S r.2.1,W Y T r.2.2.1,W Y aa r.2.2.2]):=by
 refine ca1 61 Tryz.func138 Z Z Z<|have hS:=St.r f;?_
 unfold F.aaY at h
 exact wk
theorem ja {f:World} {G S T aa ab ac ad ae:L8} {j p u A B C D E:Value} {r:L8×L8×L8×L8}
  (h:F.YE G S T aa ab ac ad ae=some r) (hT:TB [] f) (ak:O [] f Y j G) (al:O [] f Y p S) (am:O [] f Y u T) (an:O [] f Y A aa) (ao:O [] f Y B ab) (ap:O [] f Y C ac) (J:O [] f Y D ad) (au:O [] f Y E ae):Calls Tryz.prog 59 #[.agg #[j,p,u,A],.agg #[B,C,D,E]] f (K fun v w=>∃af ag ah aj:Value,v=.agg #[af,ag,ah,aj]/\St [] f w [W Y af r.1,W Y ag r.2.1,W Y ah r.2.2.1,W Y aj r.2.2.2]):=by
 refine ca2 77 Tryz.func59 Z Z Z<|have hS:=St.r f;?_
 unfold F.YE at h
 exact wk
theorem iL {A:World} {E G S T a1:L8} {f j p u ab:Value} {r:L8×L8×L8×L8}
  (h:F.YG E G S T a1=some r) (hT:TB [] A) (ap:O [] A Y f E) (J:O [] A Y j G) (au:O [] A Y p S) (av:O [] A Y u T) (aw:O [] A Y ab a1):Calls Tryz.prog 58 #[.agg #[f,j,p,u],ab] A (K fun v w=>∃ac ad ae af:Value,v=.agg #[ac,ad,ae,af]/\St [] A w [W Y ac r.1,W Y ad r.2.1,W Y ae r.2.2.1,W Y af r.2.2.2]):=by
 refine ca2 26 Tryz.func58 Z Z Z<|have hS:=St.r A;?_
 unfold F.YG at h
 let i1:=fun B C D=>mkI (F.ZG E G S T a1) (fun s L w=>∃ag ah aj ak,L=[(1,ab),(2,Q B 0),(4,Q C 0),(5,Q D 0),(6,R s.1)]/\St [] A w [X B [f,j,p,u],X C [L02,L02,L02,L02],X D [ag,ah,aj,ak],W Y ag s.2.1,W Y ah s.2.2.1,W Y aj s.2.2.2.1,W Y ak s.2.2.2.2])
 let j1:=fun B C D aa=>mkJ 5 (F.abq aa) (fun g L w=>∃al am an ao,L=[(1,ab),(2,Q B 0),(4,Q C 0),(5,Q D 0),(6,R aa)]/\St [] A w [X B [f,j,p,u],X C [L02,L02,L02,L02],X D [al,am,an,ao],W Y al g.1,W Y am g.2.1,W Y an g.2.2.1,W Y ao g.2.2.2]) [(2,Q B 0),(4,Q C 0),(5,Q D 0),(6,R aa)] [X B [f,j,p,u],X C [L02,L02,L02,L02]]
 exact wk
theorem iH {f:World} {B C D E:L8} {j p u A:Value} {r:L8×L8×Bool}
  (h:F.aaS B C D E=some r) (hT:TB [] f) (T:O [] f Y j B) (aa:O [] f Y p C) (ab:O [] f Y u D) (ac:O [] f Y A E):Calls Tryz.prog 60 #[.agg #[j,p,u,A]] f (K fun v w=>∃G S:Value,v=.agg #[G,S,P r.2.2]/\St [] f w [W Y G r.1,W Y S r.2.1]):=by
 refine ca1 16 Tryz.func60 Z Z Z<|have hS:=St.r f;?_
 unfold F.aaS at h
 exact wk
theorem NR {p:World} {u A:L8} {f j:Value} (B:Bool) {r:Bool}
  (h:F.aa2 u A B=some r) (hT:TB [] p) (D:O [] p Y f u) (E:O [] p Y j A):Calls Tryz.prog 142 #[.agg #[f,j,P B]] p (K fun v w=>v=P r/\St [] p w []):=by
 refine ca1 43 Tryz.func142 Z Z Z<|have hS:=St.r p;?_
 unfold F.aa2 at h
 let j1:=fun C=>mkJ 3 (F.aaP u A) (fun g L w=>L=[(1,Q C 0),(20,P g.1)]/\St [] p w [X C [f,j,P g.2]]) [(1,Q C 0)] []
 exact wk
theorem EN {f:World} {u A:L8} {j p:Value} (B:Bool) {r:L00×Int}
  (h:F.ZD u A B=some r) (hT:TB [] f) (D:O [] f Y j u) (E:O [] f Y p A):Calls Tryz.prog 61 #[.agg #[j,p,P B]] f (K fun v w=>∃u0:Value,v=.tuple #[u0,R r.2]/\St [] f w [W M u0 r.1]):=by
 refine ca1 26 Tryz.func61 Z Z Z<|have hS:=St.r f;?_
 unfold F.ZD at h
 let j1:=fun C=>mkJ 8 (F.acg) (fun g L w=>L=[(4,C)]/\St [] f w [W M C g]) [(4,C)] []
 exact wk
end Go.Proofs
