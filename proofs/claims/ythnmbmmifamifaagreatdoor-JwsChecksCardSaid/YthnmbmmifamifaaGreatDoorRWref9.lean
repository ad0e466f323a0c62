import Derived.Test.YthnmbmmifamifaaGreatDoorRW0
import Derived.Test.YthnmbmmifamifaaGreatDoorRAw
import Derived.Test.YthnmbmmifamifaaGreatDoorGkFman
import Derived.Test.YthnmbmmifamifaaGreatDoorRWref4
import Derived.Test.YthnmbmmifamifaaGreatDoorRWref6
set_option linter.unusedVariables false
set_option linter.unusedSimpArgs false
set_option linter.unusedSectionVars false
section
set_option maxRecDepth 20000
set_option maxHeartbeats 20000000
namespace Go.Proofs
open Go Go.RowKit Go.Gk
open Go.Gk renaming RP -> O,Ret -> K,ar -> J,e32 -> Y,e8 -> M,own -> W,vB -> P,vI -> R
theorem G3 {f:World} {a0 a1:L00} {j p:Value} {r:Int}
  (h:F.Zc a0 a1=some r) (u:O [] f M j a0) (A:O [] f M p a1):Calls Tryz.prog 67 #[j,p] f (K fun v w=>v=R r/\St [] f w []):=by
 refine ca2 67 Tryz.func67 Z Z Z<|have hS:=St.r f;?_
 unfold F.Zc at h
 let j1:=mkJ 3 (F.WK a0 a1) (fun g L w=>L=[(0,j),(1,p),(30,P g)]/\St [] f w []) [] []
 let j2:=mkJ 11 (F.VS) (fun g L w=>L=[(66,P g)]/\St [] f w []) [] []
 exact wk
theorem EU {f:World} (a0:Int) {r:L00}
  (h:F.acr a0=some r) :Calls Tryz.prog 149 #[R a0] f (K fun v w=>St [] f w [W M v r]):=by
 refine ca1 16 Tryz.func149 Z Z Z<|have hS:=St.r f;?_
 unfold F.acr at h
 exact wk
theorem AY {p:World} {a1:L00} {u:Value} (a0 a2:Int) {r:L00×Int}
  (h:F.aa3 a0 a1 a2=some r) (hT:TB [] p) (B:O [] p M u a1):Calls Tryz.prog 70 #[R a0,u,R a2] p (K fun v w=>∃u0:Value,v=.tuple #[u0,R r.2]/\St [] p w [W M u0 r.1]):=by
 refine ca3 52 Tryz.func70 Z Z Z<|have hS:=St.r p;?_
 unfold F.aa3 at h
 let i1:=fun f j=>mkI (F.Yx a2 j) (fun s L w=>∃A,L=[(2,R a2),(8,f),(10,A)]/\St [] p w [W M A s,W M f j])
 let j1:=mkJ 3 (F.acq a0 a1 a2) (fun g L w=>L=[(0,R a0),(1,u),(2,R a2),(16,P g)]/\St [] p w []) [] []
 let j2:=fun f j=>mkJ 8 (F.acA a2 j) (fun g L w=>L=[(2,R a2),(8,f),(33,P g)]/\St [] p w [W M f j]) [(8,f)] [W M f j]
 exact wk
theorem As {f:World} {a1 a2 a3 a4:L00} {j p u C:Value} (a0:Int) {r:Int}
  (h:F.abH a0 a1 a2 a3 a4=some r) (hT:TB [] f) (G:O [] f M j a1) (S:O [] f M p a2) (T:O [] f M u a3) (aa:O [] f M C a4):Calls Tryz.prog 24 #[R a0,j,p,u,C] f (K fun v w=>v=R r/\St [] f w []):=by
 refine ca5 66 Tryz.func24 Z Z Z<|have hS:=St.r f;?_
 unfold F.abH at h
 let j1:=mkJ 3 (F.abL a1 a2 a4 a0 a3) (fun g L w=>L=[(0,R a0),(1,j),(2,p),(3,u),(4,C),(23,P g)]/\St [] f w []) [] []
 let j2:=fun A B D E=>mkJ 10 (F.Yr a0 a1 a2 a3 D E) (fun g L w=>L=[(0,R a0),(1,j),(2,p),(3,u),(12,A),(13,B),(44,P g)]/\St [] f w [W Y A D,W Y B E]) [(12,A),(13,B)] [W Y A D,W Y B E]
 exact wk
theorem zt {f:World} {a0:L00} {j:Value} {r:L8}
  (h:F.Wx a0=some r) (u:O [] f M j a0):Calls Tryz.prog 72 #[j] f (K fun v w=>St [] f w [W Y v r]):=by
 refine ca1 44 Tryz.func72 Z Z Z<|have hS:=St.r f;?_
 unfold F.Wx at h
 let i1:=fun p=>mkI (F.XL a0) (fun s L w=>L=[(0,j),(3,p),(4,R s.1)]/\St [] f w [W Y p s.2])
 exact wk
theorem BL {f:World} {a0:L8} {b:Value} {r:Int}
  (h:F.abD a0=some r) (l:O [] f Y b a0):Calls Tryz.prog 74 #[b] f (K fun v w=>v=R r/\St [] f w []):=by
 refine dP 19 Tryz.func74 Z Z Z<|have a:=St.r f;eZ [(0,b)] Z ?_
 unfold F.abD at h
 refine gl4<|J 1 Z<|gl2<|J 1 Z<|aQ (dV Tryz.underlying55 Z (l.f a.fr)) Z<|aQ (bk Z Z (rC _ 32 (a0.length:Int))) Z<|jp h fun i m h=>aQ (fk (v:=R i) (by rw[<-m]; rfl)) Z<|gl1<|cn<|eZ [(0,b),(3,R i)] Z ?_
 refine fN (F.YS a0) (fun (s:Int) L w=>L=[(0,b),(3,R s)]/\St [] f w []) ?_ i ⟨Z,a⟩ h
 rintro z d L w p q n h j
 try dsimp only at q
 obtain⟨rfl,a⟩:=q
 unfold F.YS at h
 refine cw ?_
 refine iF (r:=p) (fun (g:Bool) L w=>L=[(0,b),(3,R d),(15,P g)]/\St [] f w []) (F.WY d) ?_ ?_
 rotate_left
 ·intro k
  refine bS<|J 3 Z ?_
  cases c:(decide ((0:Int)<d))
  case true=>
   have h:=md h c
   try simp only[c]
   refine J 3 Z<|aK h fun u o h=>mo (t:=9) Z Z (by kernel_rfl) Z (xF (wI (d - 1)) o (l.f a.fr).rp) Z ?_
   rintro _ w ⟨rfl,x⟩
   have a:=a.p x
   exact J 2 Z<|gl3<|ef (k (!u) _ _ ⟨Z,a⟩ h) Z
  case false=>
   have h:=me h c
   try simp only[c]
   exact J 6 Z<|gl3<|ef (k false _ _ ⟨Z,a⟩ h) Z
 rintro A L w y h
 try dsimp only at y
 obtain⟨rfl,a⟩:=y
 unfold F.WY at h
 apply gl9 Z h<;>intro h
 ·exact gl5<|cn<|bS<|J 3 Z<|d7<|eH<|iz (iM (n (wI (d - 1)) _ _ ⟨Z,a⟩ (eG h j)) Z)
 refine fc<|cj<|cj<|have h:=ep h j;fe<|bL<|gl4<|J 2 Z<|gl3<|iY ?_
 cases h
 exact gc Z Z ⟨Z,a⟩
theorem AE {p:World} {a0:L8} {j:Value} (a1:Int) {r:L00×Bool}
  (h:F.ab0 a0 a1=some r) (A:O [] p Y j a0):Calls Tryz.prog 75 #[j,R a1] p (K fun v w=>∃u0:Value,v=.tuple #[u0,P r.2]/\St [] p w [W M u0 r.1]):=by
 refine ca2 43 Tryz.func75 Z Z Z<|have hS:=St.r p;?_
 unfold F.ab0 at h
 let i1:=fun f=>mkI (F.Yy a0 a1) (fun s L w=>L=[(0,j),(1,R a1),(6,f),(7,R s.1)]/\St [] p w [W M f s.2])
 let j1:=fun f u=>mkJ 5 (F.Xc u) (fun g L w=>L=[(0,j),(1,R a1),(6,f),(7,R u)]/\St [] p w [W M f g]) [(6,f),(7,R u)] []
 exact wk
theorem ug {f:World} {a1:L00} {j:Value} (a0 a2:Int) {r:L00}
  (h:F.Xv a0 a1 a2=some r) (hT:TB [] f) (u:O [] f M j a1):Calls Tryz.prog 157 #[R a0,j,R a2] f (K fun v w=>St [] f w [W M v r]):=by
 refine ca3 44 Tryz.func157 Z Z Z<|have hS:=St.r f;?_
 unfold F.Xv at h
 let i1:=mkI (F.YT a0 a1 a2) (fun s L w=>∃p,L=[(0,R a0),(1,j),(2,R a2),(7,p),(8,R s.2)]/\St [] f w [W M p s.1])
 exact wk
theorem yQ {f:World} {a1 a2:L00} {j p:Value} (a0:Int) {r:L00}
  (h:F.aby a0 a1 a2=some r) (hT:TB [] f) (u:O [] f M j a1) (A:O [] f M p a2):Calls Tryz.prog 218 #[R a0,j,p] f (K fun v w=>St [] f w [W M v r]):=by
 refine ca3 18 Tryz.func218 Z Z Z<|have hS:=St.r f;?_
 unfold F.aby at h
 exact wk
theorem EQ {f:World} (a0:Int) {r:Int}
  (h:F.aa9 a0=some r) :Calls Tryz.prog 219 #[R a0] f (K fun v w=>v=R r/\St [] f w []):=by
 refine ca1 7 Tryz.func219 Z Z Z<|have hS:=St.r f;?_
 unfold F.aa9 at h
 exact wk
theorem rO {j:World} {a1 a2:L00} {p u:Value} (a0 a3:Int) {r:L00×Int}
  (h:F.aaj a0 a1 a2 a3=some r) (hT:TB [] j) (S:O [] j M p a1) (T:O [] j M u a2):Calls Tryz.prog 158 #[R a0,p,u,R a3] j (K fun v w=>∃u0:Value,v=.tuple #[u0,R r.2]/\St [] j w [W M u0 r.1]):=by
 refine ca4 100 Tryz.func158 Z Z Z<|have hS:=St.r j;?_
 unfold F.aaj at h
 let i1:=fun A B C D G=>mkI (F.Z5 a3 G D) (fun s L w=>L=[(3,R a3),(12,A),(13,B),(14,C),(15,R s.1)]/\St [] j w [W M A G,W M B s.2,W M C D])
 let j1:=fun f=>mkJ 6 (F.acd a1 a2 a3 f a0) (fun g L w=>L=[(0,R a0),(1,p),(2,u),(3,R a3),(10,R f),(25,P g)]/\St [] j w []) [(10,R f)] []
 let j2:=fun f E=>mkJ 9 (F.acm a0 a1 a2 f E a3) (fun g L w=>L=[(0,R a0),(1,p),(2,u),(3,R a3),(10,R f),(11,R E),(41,P g)]/\St [] j w []) [(10,R f),(11,R E)] []
 exact wk
theorem AF {j:World} {a1 a2:L00} {k f:Value} (a0 a3:Int) {r:Bool}
  (h:F.aa6 a0 a1 a2 a3=some r) (hT:TB [] j) (an:O [] j M k a1) (m:O [] j M f a2):Calls Tryz.prog 76 #[R a0,k,f,R a3] j (K fun v w=>v=P r/\St [] j w []):=by
 refine dP 112 Tryz.func76 Z Z Z<|have a:=St.r j;eZ [(0,R a0),(1,k),(2,f),(3,R a3)] Z ?_
 unfold F.aa6 at h
 refine gl4<|J 1 Z<|gl2<|J 1 Z<|aK h fun b ao h=>my a Z (vf a0 ao ) Z fun w a=>J 1 Z<|gl1 ?_
 refine iF (r:=r) (fun (g:Bool) L w=>L=[(0,R a0),(1,k),(2,f),(3,R a3),(9,R b),(35,P g)]/\St [] j w []) (F.WM a2 a3 b a0 a1) ?_ ?_
 rotate_left
 ·intro n
  refine bS<|J 3 Z ?_
  cases o:(b == 0)
  case true=>
   have h:=md h o
   try simp only[o]
   exact J 13 Z<|gl3<|ef (n true _ _ ⟨Z,a⟩ h) Z
  case false=>
   have h:=me h o
   try simp only[o]
   refine J 4 Z ?_
   cases p:(decide (a3<0))
   case true=>
    have h:=md h p
    try simp only[p]
    exact J 9 Z<|gl3<|ef (n true _ _ ⟨Z,a⟩ h) Z
   case false=>
    have h:=me h p
    try simp only[p]
    refine J 4 Z ?_
    cases q:(decide ((65536:Int)<a3))
    case true=>
     have h:=md h q
     try simp only[q]
     exact J 5 Z<|gl3<|ef (n true _ _ ⟨Z,a⟩ h) Z
    case false=>
     have h:=me h q
     try simp only[q]
     exact J 1 Z<|kk (t:=30) Z Z (dV u25 Z (an.f a.fr)) Z<|J 3 Z<|gl3<|ef (n ((a1.length:Int) != b) _ _ ⟨Z,a⟩ h) Z
 rintro aI L w hJ h
 try dsimp only at hJ
 obtain⟨rfl,a⟩:=hJ
 unfold F.WM at h
 apply gl9 Z h<;>intro h
 ·refine gl4<|J 1 Z<|gl8 ?_
  cases h
  exact gc Z Z ⟨Z,a⟩
 refine gl6<|J 2 Z<|aQ (bk Z Z (wN _ (wI (a3+7)) 8 q11)) Z<|jp h fun c ap h=>aQ (fk (v:=R c) (by rw[<-ap]; rfl)) Z<|gl1 ?_
 refine iF (r:=r) (fun (g:Bool) L w=>L=[(0,R a0),(1,k),(2,f),(3,R a3),(9,R b),(10,R c),(49,P g)]/\St [] j w []) (F.XC a0 a2 b c a1 a3) ?_ ?_
 rotate_left
 ·intro S
  refine bS<|J 1 Z<|aQ (dV u25 Z (m.f a.fr)) Z<|J 3 Z ?_
  cases u:((a2.length:Int) != c)
  case true=>
   have h:=md h u
   try simp only[u]
   exact J 6 Z<|gl3<|ef (S true _ _ ⟨Z,a⟩ h) Z
  case false=>
   have h:=me h u
   try simp only[u]
   exact J 2 Z<|kk (t:=43) Z Z (bk Z Z (rC _ 2 b)) Z<|J 3 Z<|gl3<|ef (S (decide (c<(wI ((wI (2*b))+2)))) _ _ ⟨Z,a⟩ h) Z
 rintro aJ L w hJ h
 try dsimp only at hJ
 obtain⟨rfl,a⟩:=hJ
 unfold F.XC at h
 apply gl9 Z h<;>intro h
 ·refine gl4<|J 1 Z<|gl8 ?_
  cases h
  exact gc Z Z ⟨Z,a⟩
 refine gl6<|J 8 Z<|aK h fun aA T h=>aQ (Rm u25 ti5 Z Z Z (m.f a.fr) T) Z<|J 4 Z<|aK h fun A ai h=>rJ a Z (ug a0 (wI ((wI (c - b)) - 1)) ai (hT.f a.fr) ((m.g_sl T).f a.fr).rp) Z fun x w a=>J 1 Z<|gl2<|J 1 Z<|gl1<|gl4<|J 1 Z<|gl3<|cn<|eZ [(0,R a0),(1,k),(2,f),(3,R a3),(9,R b),(10,R c),(11,x),(12,.slice none 0 0),(13,R 0)] Z ?_
 refine fN (F.XV a0 a1 a2 a3 b A c) (fun (s:L00×Int) L w=>∃(B:Value),L=[(0,R a0),(1,k),(2,f),(3,R a3),(9,R b),(10,R c),(11,x),(12,B),(13,R s.2)]/\St [] j w [W M B s.1,W M x A]) ?_ ([],0) ⟨L02,Z,(a.nil M)⟩ h
 rintro aB ⟨aC,aq⟩ L w aD hI aj h aa
 try dsimp only at hI
 obtain⟨B,rfl,a⟩:=hI
 unfold F.XV at h
 refine cw<|gl4<|J 2 Z<|aQ (dV u25 Z (a.ro 1 Z)) Z<|J 1 Z<|gl3 ?_
 apply gl9 Z h<;>intro h
 ·exact gl5<|cw<|cn<|have hsh0:=(a.ro 0 Z).shp;lI (fun w'=>St [] j w' [W M x A]) (fun i=>!([10,11].contains i)) gC (fun _ _ _ C=>C.2) (fun _ _ C=>C) (by kernel_rfl)<|have a:=a.drew;show lxE _ _ _ _ _ _ _ [0,1,2,3,4,5,6,7,8,9,10,11,12] _ _ from bT 3 Z (a.j [1] Z Z)<|aK h fun D ab h=>aN (a.j [1] Z Z) Z Z (fun w d=>mz u25 ti5 Z Z (m.f d.fr) ab) Z<|aN (a.j [1] Z Z) Z Z (fun w d=>iu Tryz.underlying5 Z Z (m.f d.fr) ab Z) Z<|bT 2 Z (a.j [1] Z Z)<|aK h fun E ac h=>aN (a.j [1] Z Z) Z Z (fun w d=>mz u25 ti5 Z Z (d.ro 0 Z) ac) Z<|aN (a.j [1] Z Z) Z Z (fun w d=>iu Tryz.underlying5 Z Z (d.ro 0 Z) ac Z) Z<|aN (a.j [1] Z Z) Z Z (fun w d=>bk Z Z (pQ _ D E)) Z<|sP (a.j [1] Z Z) Z Z (lR (e:=M) (l:=[D ^^^ E]) (vs:=[v8 (D ^^^ E)]) u25 ti5 Z Z Z Z q11 q11 a) Z fun aE w a=>aK h fun au ak h=>sP (a.j [2] Z Z) Z Z (pg u25 ti5 Z Z Z a (i:=1) Z (a.ro 0 Z) ak) Z fun av w a=>bT 1 Z (a.j [2] Z Z)<|gf (a.j [2] Z Z)<|eH<|bL<|bS<|J 3 Z<|d7<|iz (iM (aj (au,wI (aq+1)) _ _ ⟨av,Z,(a.j [1,2] Z Z)⟩ (eG h aa)) Z)
 refine fc<|cj<|cj<|have h:=ep h aa;fe<|bL<|gl4<|J 2 Z<|aQ (dV u25 Z (a.ro 0 Z)) Z<|J 2 Z<|aK h fun aF ad h=>aQ (wG u25 ti5 Z Z (a.ro 0 Z) ad) Z<|J 1 Z<|gl2<|J 4 Z<|aK h fun G al h=>QD a Z (rO a0 a3 al (hT.f a.fr) (an.f a.fr).rp ((a.ro 0 Z).g_sll ad).rp) Z fun y w a=>J 5 Z<|gl1<|gl4<|J 2 Z<|gl3 ?_
 apply gl9 Z h<;>intro h
 ·refine gl4<|J 1 Z<|gl8 ?_
  cases h
  exact gc Z Z ⟨Z,a.j [] Z Z⟩
 refine gl5<|cw<|gl4<|J 1 Z<|gl3<|cn<|eZ [(2,f),(10,R c),(15,y),(17,R 0)] Z ?_
 refine fN (F.WR a2 c G) (fun (s:Int) L w=>L=[(2,f),(10,R c),(15,y),(17,R s)]/\St [] j w [W M y G.1]) ?_ 0 ⟨Z,(a.j [0] Z Z)⟩ h
 rintro aG aw L w aH hI am h z
 try dsimp only at hI
 obtain⟨rfl,a⟩:=hI
 unfold F.WR at h
 refine cw<|gl4<|J 3 Z<|gl3 ?_
 apply gl9 Z h<;>intro h
 ·refine gl5<|cw<|cn<|cw<|lI (fun w'=>St [] j w' [W M y G.1]) (fun _=>true) gC (fun _ _ _ C=>C.2) (fun _ _ C=>C) (by kernel_rfl)<|have a:=a.drew;show lxE _ _ _ _ _ _ _ [0,1,2,3,4,5,6,7,8] _ _ from bT 2 Z a<|aK h fun ax ae h=>aN a Z Z (fun w d=>mz u25 ti5 Z Z (d.ro 0 Z) ae) Z<|aN a Z Z (fun w d=>iu Tryz.underlying5 Z Z (d.ro 0 Z) ae Z) Z<|bT 2 Z a<|aK h fun ay af h=>aN a Z Z (fun w d=>mz u25 ti5 Z Z (m.f d.fr) af) Z<|aN a Z Z (fun w d=>iu Tryz.underlying5 Z Z (m.f d.fr) af Z) Z<|aN a Z Z (fun w d=>bk Z Z (tt _ ax ay)) Z<|gf a<|bL ?_
  apply gl9 Z h<;>intro h
  ·refine gl4<|J 1 Z<|gl3<|iY<|pj<|mp<|mp<|have h:=ep h z;pj<|mp ?_
   cases h
   exact gc Z Z ⟨Z,a.j [] Z Z⟩
  exact pu<|eH<|bL<|bS<|J 3 Z<|d7<|iz (iM (am (wI (aw+1)) _ _ ⟨Z,a⟩ (eG h z)) Z)
 refine fc<|cj<|cj<|have h:=ep h z;fe<|bL<|gl4<|J 1 Z<|gl3<|iY ?_
 cases h
 exact gc Z Z ⟨Z,a.j [] Z Z⟩
theorem yn {f:World} {a1 a2 a3 a4:L00} {D u A E:Value} (a0:Int) {r:Int}
  (h:F.aaV a0 a1 a2 a3 a4=some r) (hT:TB [] f) (G:O [] f M D a1) (S:O [] f M u a2) (T:O [] f M A a3) (aa:O [] f M E a4):Calls Tryz.prog 25 #[R a0,D,u,A,E] f (K fun v w=>v=R r/\St [] f w []):=by
 refine ca5 75 Tryz.func25 Z Z Z<|have hS:=St.r f;?_
 unfold F.aaV at h
 let j1:=fun j p B C=>mkJ 9 (F.YD a0 a2 a3 B C) (fun g L w=>L=[(0,R a0),(2,u),(3,A),(11,j),(12,p),(39,P g)]/\St [] f w [W Y j B,W Y p C]) [(11,j),(12,p)] [W Y j B,W Y p C]
 let j2:=mkJ 14 (F.aaz) (fun g L w=>L=[(74,P g)]/\St [] f w []) [] []
 exact wk
end Go.Proofs
end
