import Derived.Test.YthnmbmmifamifaaGreatDoorRW0
import Derived.Test.YthnmbmmifamifaaGreatDoorRAw
import Derived.Test.YthnmbmmifamifaaGreatDoorGkFman
import Derived.Test.YthnmbmmifamifaaGreatDoorRWspki
import Derived.Test.YthnmbmmifamifaaGreatDoorRWref14
set_option linter.unusedVariables false
set_option linter.unusedSimpArgs false
set_option linter.unusedSectionVars false
set_option maxRecDepth 20000
set_option maxHeartbeats 20000000
namespace Go.Proofs
open Go Go.RowKit Go.Gk
open Go.Gk renaming RP -> O, Ret -> K, ar -> J, e8 -> M, own -> W, pB -> Q, vB -> P, vI -> R
open Go.Gk.OE renaming bx -> X
theorem un {f:World} {a0:L00} {j:Value} {r:(L00×Nat)}
  (h:F.UX a0=some r) (u:O [] f M j a0):Calls Tryz.prog 5 #[j] f (K fun v w=>∃u0:Value,v=slV u0 M.sz 0 r.2/\r.2<=r.1.length/\St [] f w [W M u0 r.1]):=by
 refine ca1 19 Tryz.func5 Z Z Z<|have hS:=St.r f;?_
 unfold F.UX at h
 let i1:=mkI (F.aay a0) (fun s L w=>∃p,L=[(0,j),(3,p),(4,R s.2)]/\St [] f w [W M p s.1])
 exact wk
theorem tV {f:World} {C D E G S:L00} {j p u A B:Value} (T aa:Int) {r:Int×Int×(L00×Nat)×(L00×Nat)×(L00×Nat)×(L00×Nat)×(L00×Nat)}
  (h:F.aau T aa C D E G S=some r) (ag:O [] f M j C) (ah:O [] f M p D) (aj:O [] f M u E) (ak:O [] f M A G) (al:O [] f M B S):Calls Tryz.prog 4 #[.agg #[R T,R aa,j,p,u,A,B]] f (K fun v w=>∃ab ac ad ae af:Value,v=.agg #[R r.1,R r.2.1,slV ab M.sz 0 r.2.2.1.2,slV ac M.sz 0 r.2.2.2.1.2,slV ad M.sz 0 r.2.2.2.2.1.2,slV ae M.sz 0 r.2.2.2.2.2.1.2,slV af M.sz 0 r.2.2.2.2.2.2.2]/\r.2.2.1.2<=r.2.2.1.1.length/\r.2.2.2.1.2<=r.2.2.2.1.1.length/\r.2.2.2.2.1.2<=r.2.2.2.2.1.1.length/\r.2.2.2.2.2.1.2<=r.2.2.2.2.2.1.1.length/\r.2.2.2.2.2.2.2<=r.2.2.2.2.2.2.1.length/\St [] f w [W M ab r.2.2.1.1,W M ac r.2.2.2.1.1,W M ad r.2.2.2.2.1.1,W M ae r.2.2.2.2.2.1.1,W M af r.2.2.2.2.2.2.1]):=by
 refine ca1 23 Tryz.func4 Z Z Z<|have hS:=St.r f;?_
 unfold F.aau at h
 exact wk
theorem ol {u:World} {a0 a1:L00} {n o:Value} (k0:Nat) {r:Bool}
  (h:F.UA a0 k0 a1=some r) (d:O [] u M n a0) (aa:k0<=a0.length) (l:O [] u M o a1):Calls Tryz.prog 11 #[slV n M.sz 0 k0,o] u (K fun v w=>v=P r/\St [] u w []):=by
 refine dP 51 Tryz.func11 Z Z Z<|have a:=St.r u;eZ [(0,slV n M.sz 0 k0),(1,o)] Z ?_
 unfold F.UA at h
 refine gl4<|J 1 Z<|gl1<|gl4<|J 1 Z<|aQ (dV u25 Z ((d.f a.fr).tk aa)) Z<|J 1 Z<|aQ (dV u25 Z (l.f a.fr)) Z<|J 1 Z<|gl3 ?_
 apply gl9 Z h<;>intro h
 ·refine gl4<|J 1 Z<|gl8 ?_
  cases h
  exact gc Z Z ⟨Z,a⟩
 refine gl6<|J 2 Z<|aQ (dV u25 Z (l.f a.fr)) Z<|J 1 Z<|wL h fun m h=>aQ (xY u25 ti5 Z Z (d.f a.fr) (ye m)) Z<|J 1 Z<|gl1<|gl4<|J 1 Z<|gl3<|cn<|eZ [(1,o),(5,slV n M.sz 0 ((wI ((a1.length:Int)+40):Int).toNat)),(6,R 0)] Z ?_
 refine fN (F.abv a0 a1) (fun (s:Int) L w=>L=[(1,o),(5,slV n M.sz 0 ((wI ((a1.length:Int)+40):Int).toNat)),(6,R s)]/\St [] u w []) ?_ 0 ⟨Z,a⟩ h
 rintro ae i L w ab hI S h x
 try dsimp only at hI
 obtain⟨rfl,a⟩:=hI
 unfold F.abv at h
 refine cw<|gl4<|J 2 Z<|aQ (dV u25 Z ((d.f a.fr).tk m.2)) Z<|J 1 Z<|gl3 ?_
 apply gl9 Z h<;>intro h
 ·refine gl5<|cw<|cn ?_
  refine iF (r:=ab) (fun (g:Bool) L w=>L=[(1,o),(5,slV n M.sz 0 ((wI ((a1.length:Int)+40):Int).toNat)),(6,R i),(50,P g)]/\St [] u w []) (F.Vk i) ?_ ?_
  rotate_left
  ·intro f
   refine lI (fun w'=>St [] u w' []) (fun _=>true) gC (fun _ _ _ T=>T.2) (fun _ _ T=>T) (by kernel_rfl)<|have a:=a.drew;show lxE _ _ _ _ _ _ _ [0,1,2,3,4,5,6,7,8,9,10,11,12,13,14,15,16,17,18,19,20,21,22,23,24,25,26,27] _ _ from bT 2 Z a<|aN a Z Z (fun w c=>dV u25 Z (l.f c.fr)) Z<|bT 2 Z a ?_
   cases p:(decide (i<(a1.length:Int)))
   case true=>
    have h:=md h p
    try simp only[p]
    refine eX (t:=27) a Z Z Z Z (fun w c=>je Z) Z<|eX (t:=27) a Z Z Z Z (fun w c=>je Z) Z<|aK h fun E A h=>eX (t:=27) a Z Z Z Z (fun w c=>lF u25 ti5 Z Z (d.f c.fr) m.2 A) Z<|eX (t:=27) a Z Z Z Z (fun w c=>iu Tryz.underlying5 Z Z (d.f c.fr) (lK A) Z) Z<|eX (t:=27) a Z Z Z Z (fun w c=>je Z) Z<|eX (t:=27) a Z Z Z Z (fun w c=>je Z) Z<|aK h fun G B h=>eX (t:=27) a Z Z Z Z (fun w c=>mz u25 ti5 Z Z (l.f c.fr) B) Z<|eX (t:=27) a Z Z Z Z (fun w c=>iu Tryz.underlying5 Z Z (l.f c.fr) B Z) Z<|eX (t:=27) a Z Z Z Z (fun w c=>bk Z Z (tt _ E G)) Z<|bT 2 Z a ?_
    cases q:(E != G)
    case true=>
     have h:=md h q
     try simp only[q]
     exact ej (b:=true) (t:=38) a Z Z Z Z Z Z<|ej (b:=true) (t:=38) a Z Z Z Z Z Z<|ej (b:=true) (t:=38) a Z Z Z Z Z Z<|ej (b:=true) (t:=38) a Z Z Z Z Z Z<|ej (b:=true) (t:=38) a Z Z Z Z Z Z<|nT (t:=43) a Z Z Z Z Z<|nT (t:=43) a Z Z Z Z Z<|nT (t:=43) a Z Z Z Z Z<|nT (t:=43) a Z Z Z Z Z<|nT (t:=43) a Z Z Z Z Z<|ej (b:=true) (t:=38) a Z Z Z Z Z Z<|bT 1 Z a<|gf a<|bL<|ef (f true _ _ ⟨Z,a⟩ h) Z
    case false=>
     have h:=me h q
     try simp only[q]
     refine eX (t:=38) a Z Z Z Z (fun w c=>je Z) Z<|eX (t:=38) a Z Z Z Z (fun w c=>je Z) Z<|eX (t:=38) a Z Z Z Z (fun w c=>dV u25 Z (l.f c.fr)) Z<|eX (t:=38) a Z Z Z Z (fun w c=>bk Z Z (xy _ i (a1.length:Int))) Z<|eX (t:=38) a Z Z Z Z (fun w c=>je Z) Z ?_
     cases j:(decide ((a1.length:Int)<=i))
     case true=>
      have h:=md h j
      try simp only[j]
      exact eX (t:=43) a Z Z Z Z (fun w c=>je Z) Z<|eX (t:=43) a Z Z Z Z (fun w c=>je Z) Z<|aK h fun C y h=>eX (t:=43) a Z Z Z Z (fun w c=>lF u25 ti5 Z Z (d.f c.fr) m.2 y) Z<|eX (t:=43) a Z Z Z Z (fun w c=>iu Tryz.underlying5 Z Z (d.f c.fr) (lK y) Z) Z<|eX (t:=43) a Z Z Z Z (fun w c=>bk Z Z (tt _ C 165)) Z<|eX (t:=38) a Z Z Z Z (fun w c=>qZ Z Z) Z<|bT 1 Z a<|gf a<|bL<|ef (f (C != 165) _ _ ⟨Z,a⟩ h) Z
     case false=>
      have h:=me h j
      try simp only[j]
      exact ej (b:=false) (t:=43) a Z Z Z Z Z Z<|ej (b:=false) (t:=43) a Z Z Z Z Z Z<|ej (b:=false) (t:=43) a Z Z Z Z Z Z<|ej (b:=false) (t:=43) a Z Z Z Z Z Z<|ej (b:=false) (t:=43) a Z Z Z Z Z Z<|eX (t:=38) a Z Z Z Z (fun w c=>rk Z Z) Z<|bT 1 Z a<|gf a<|bL<|ef (f false _ _ ⟨Z,a⟩ h) Z
   case false=>
    have h:=me h p
    try simp only[p]
    refine ej (b:=false) (t:=27) a Z Z Z Z Z Z<|ej (b:=false) (t:=27) a Z Z Z Z Z Z<|ej (b:=false) (t:=27) a Z Z Z Z Z Z<|ej (b:=false) (t:=27) a Z Z Z Z Z Z<|ej (b:=false) (t:=27) a Z Z Z Z Z Z<|ej (b:=false) (t:=27) a Z Z Z Z Z Z<|ej (b:=false) (t:=27) a Z Z Z Z Z Z<|ej (b:=false) (t:=27) a Z Z Z Z Z Z<|ej (b:=false) (t:=27) a Z Z Z Z Z Z<|bT 2 Z a<|eX (t:=38) a Z Z Z Z (fun w c=>je Z) Z<|eX (t:=38) a Z Z Z Z (fun w c=>je Z) Z<|eX (t:=38) a Z Z Z Z (fun w c=>dV u25 Z (l.f c.fr)) Z<|eX (t:=38) a Z Z Z Z (fun w c=>bk Z Z (xy _ i (a1.length:Int))) Z<|eX (t:=38) a Z Z Z Z (fun w c=>je Z) Z ?_
    cases k:(decide ((a1.length:Int)<=i))
    case true=>
     have h:=md h k
     try simp only[k]
     exact eX (t:=43) a Z Z Z Z (fun w c=>je Z) Z<|eX (t:=43) a Z Z Z Z (fun w c=>je Z) Z<|aK h fun D z h=>eX (t:=43) a Z Z Z Z (fun w c=>lF u25 ti5 Z Z (d.f c.fr) m.2 z) Z<|eX (t:=43) a Z Z Z Z (fun w c=>iu Tryz.underlying5 Z Z (d.f c.fr) (lK z) Z) Z<|eX (t:=43) a Z Z Z Z (fun w c=>bk Z Z (tt _ D 165)) Z<|eX (t:=38) a Z Z Z Z (fun w c=>qZ Z Z) Z<|bT 1 Z a<|gf a<|bL<|ef (f (D != 165) _ _ ⟨Z,a⟩ h) Z
    case false=>
     have h:=me h k
     try simp only[k]
     exact ej (b:=false) (t:=43) a Z Z Z Z Z Z<|ej (b:=false) (t:=43) a Z Z Z Z Z Z<|ej (b:=false) (t:=43) a Z Z Z Z Z Z<|ej (b:=false) (t:=43) a Z Z Z Z Z Z<|ej (b:=false) (t:=43) a Z Z Z Z Z Z<|eX (t:=38) a Z Z Z Z (fun w c=>rk Z Z) Z<|bT 1 Z a<|gf a<|bL<|ef (f false _ _ ⟨Z,a⟩ h) Z
  rintro af L w hJ h
  try dsimp only at hJ
  obtain⟨rfl,a⟩:=hJ
  unfold F.Vk at h
  apply gl9 Z h<;>intro h
  ·refine gl4<|J 1 Z<|gl3<|iY<|pj<|mp<|mp<|have h:=ep h x;pj<|mp ?_
   cases h
   exact gc Z Z ⟨Z,a⟩
  exact pu<|eH<|bL<|bS<|J 3 Z<|d7<|iz (iM (S (wI (i+1)) _ _ ⟨Z,a⟩ (eG h x)) Z)
 refine fc<|cj<|cj<|have h:=ep h x;fe<|bL<|gl4<|J 1 Z<|gl3<|iY ?_
 cases h
 exact gc Z Z ⟨Z,a⟩
theorem ny {f:World} {j p u A B ak al am an ao:L00} {T aa ab ac ad ae af ag ah aj:Value} (ap J:Int) (C D E G S:Nat) (au av:Int) {r:Bool}
  (h:F.Vj ap J j C p D u E A G B S au av ak al am an ao=some r) (aw:O [] f M T j) (ax:C<=j.length) (ay:O [] f M aa p) (az:D<=p.length) (aA:O [] f M ab u) (aC:E<=u.length) (aD:O [] f M ac A) (aE:G<=A.length) (aF:O [] f M ad B) (aG:S<=B.length) (aJ:O [] f M ae ak) (aK:O [] f M af al) (aL:O [] f M ag am) (aM:O [] f M ah an) (aO:O [] f M aj ao):Calls Tryz.prog 10 #[.agg #[R ap,R J,slV T M.sz 0 C,slV aa M.sz 0 D,slV ab M.sz 0 E,slV ac M.sz 0 G,slV ad M.sz 0 S],.agg #[R au,R av,ae,af,ag,ah,aj]] f (K fun v w=>v=P r/\St [] f w []):=by
 refine ca2 52 Tryz.func10 Z Z Z<|have hS:=St.r f;?_
 unfold F.Vj at h
 exact wk
theorem c_law18_JwsChecks {w0:World} {aL am an aM ao a3:L00} {y f j z l bi:Value} (a0 d c:Int) (a2:L00) {r:Bool}
  (h:F.act a0 d c aL am an aM ao a2 a3=some r) (hT:TB [] w0) (ae:O [] w0 M y aL) (E:O [] w0 M f am) (G:O [] w0 M j an) (af:O [] w0 M z aM) (S:O [] w0 M l ao) (bj:O [] w0 M bi a3):Calls Tryz.prog 3 #[R a0,.agg #[R d,R c,y,f,j,z,l],vS a2,bi] w0 (K fun v w=>v=P r/\St [] w0 w []):=by
 refine dP 198 Tryz.func3 Z Z Z<|have b:=St.r w0;eZ [(0,R a0),(1,.agg #[R d,R c,y,f,j,z,l]),(2,vS a2),(3,bi)] Z ?_
 unfold F.act at h
 refine gl4<|mZ (rF (cs:=[R d,R c,y,f,j,z,l]) Z Z b) Z fun ay w b=>J 1 Z<|gl2<|aQ (gj (us:=[R d,R c,y,f,j,z,l]) u27 Z mb Z (b.u 0 Z Z)) Z<|aK h fun a b2 h=>nI Z (tV d c b2 (ae.f b.fr).rp (E.f b.fr).rp (G.f b.fr).rp (af.f b.fr).rp (S.f b.fr).rp) Z ?_
 rintro _ w ⟨u,x,n,o,p,rfl,ag,ah,aa,ab,ac,T⟩
 have b:=b.p T
 refine mZ (mx (cs:=[R 0,R 0,L02,L02,L02,L02,L02]) Ld Z b) Z fun C w b=>kP (mG (i:=0) (us:=[R a.1,R a.2.1,slV u M.sz 0 a.2.2.1.2,slV x M.sz 0 a.2.2.2.1.2,slV n M.sz 0 a.2.2.2.2.1.2,slV o M.sz 0 a.2.2.2.2.2.1.2,slV p M.sz 0 a.2.2.2.2.2.2.2]) Z mb Z Z Z ⟨Z,Z,((b.ro 1 Z).tk ag).one,((b.ro 2 Z).tk ah).one,((b.ro 3 Z).tk aa).one,((b.ro 4 Z).tk ab).one,((b.ro 5 Z).tk ac).one,I⟩ Z b) fun w b=>gl1 ?_
 refine bS<|J 1 Z<|aK h fun m bB h=>nI Z (un  bB (bj.f b.fr).rp) Z ?_
 rintro _ w ⟨D,rfl,ad,T⟩
 have b:=b.p T
 refine J 1 Z<|gl2<|J 1 Z<|aQ (gj (us:=[R a.1,R a.2.1,slV u M.sz 0 a.2.2.1.2,slV x M.sz 0 a.2.2.2.1.2,slV n M.sz 0 a.2.2.2.2.1.2,slV o M.sz 0 a.2.2.2.2.2.1.2,slV p M.sz 0 a.2.2.2.2.2.2.2]) u27 Z mb Z (b.u 1 Z Z)) Z<|aK h fun bl bC h=>my b Z (si a0 a.1 a.2.1 bC ((b.ro 2 Z).tk ag).rp ((b.ro 3 Z).tk ah).rp ((b.ro 4 Z).tk aa).rp ((b.ro 5 Z).tk ab).rp ((b.ro 6 Z).tk ac).rp) Z fun w b=>J 1 Z<|gl2<|J 1 Z<|aQ (gj (us:=[R a.1,R a.2.1,slV u M.sz 0 a.2.2.1.2,slV x M.sz 0 a.2.2.2.1.2,slV n M.sz 0 a.2.2.2.2.1.2,slV o M.sz 0 a.2.2.2.2.2.1.2,slV p M.sz 0 a.2.2.2.2.2.2.2]) u27 Z mb Z (b.u 1 Z Z)) Z<|J 2 Z<|aK h fun b3 bD h=>my b Z (pA a0 a.1 a.2.1 a2 bD (hT.f b.fr) ((b.ro 2 Z).tk ag).rp ((b.ro 3 Z).tk ah).rp ((b.ro 4 Z).tk aa).rp ((b.ro 5 Z).tk ab).rp ((b.ro 6 Z).tk ac).rp ((b.ro 0 Z).tk ad).rp) Z fun w b=>J 1 Z<|gl1 ?_
 refine iF (r:=r) (fun (g:Bool) L w=>L=[(0,R a0),(2,vS a2),(5,Q ay 0),(9,Q C 0),(10,slV D M.sz 0 m.2),(52,P g)]/\St [] w0 w [X ay [R d,R c,y,f,j,z,l],X C [R a.1,R a.2.1,slV u M.sz 0 a.2.2.1.2,slV x M.sz 0 a.2.2.2.1.2,slV n M.sz 0 a.2.2.2.2.1.2,slV o M.sz 0 a.2.2.2.2.2.1.2,slV p M.sz 0 a.2.2.2.2.2.2.2],W M u a.2.2.1.1,W M x a.2.2.2.1.1,W M n a.2.2.2.2.1.1,W M o a.2.2.2.2.2.1.1,W M p a.2.2.2.2.2.2.1,W M D m.1]) (F.VL m a0 d c aL am an aM ao a2 a) ?_ ?_
 rotate_left
 ·intro az
  refine bS<|J 2 Z<|aQ (gj (us:=[R d,R c,y,f,j,z,l]) u27 Z mb Z (b.u 7 Z Z)) Z<|aK h fun bm bE h=>my b Z (qH a0 d c bE (ae.f b.fr).rp (E.f b.fr).rp (G.f b.fr).rp (af.f b.fr).rp (S.f b.fr).rp) Z fun w b=>aQ (bk Z Z (KC _ bl bm Tryz.underlying4 Z)) Z<|J 1 Z ?_
  cases aA:(bl != bm)
  case true=>
   have h:=md h aA
   try simp only[aA]
   exact J 20 Z<|gl3<|ef (az true _ _ ⟨Z,(b.j [7,1,2,3,4,5,6,0] Z Z)⟩ h) Z
  case false=>
   have h:=me h aA
   try simp only[aA]
   refine J 2 Z<|kk (t:=32) Z Z (gj (us:=[R d,R c,y,f,j,z,l]) u27 Z mb Z (b.u 7 Z Z)) Z<|J 2 Z<|aK h fun b4 bF h=>mo (t:=32) Z Z (by kernel_rfl) Z (oq a0 d c a2 bF (hT.f b.fr) (ae.f b.fr).rp (E.f b.fr).rp (G.f b.fr).rp (af.f b.fr).rp (S.f b.fr).rp (bj.f b.fr).rp) Z ?_
   rintro _ w ⟨rfl,T⟩
   have b:=b.p T
   refine J 3 Z ?_
   cases aB:(b3 != b4)
   case true=>
    have h:=md h aB
    try simp only[aB]
    exact J 11 Z<|gl3<|ef (az true _ _ ⟨Z,(b.j [7,1,2,3,4,5,6,0] Z Z)⟩ h) Z
   case false=>
    have h:=me h aB
    try simp only[aB]
    refine kk (t:=41) Z Z (gj (us:=[R a.1,R a.2.1,slV u M.sz 0 a.2.2.1.2,slV x M.sz 0 a.2.2.2.1.2,slV n M.sz 0 a.2.2.2.2.1.2,slV o M.sz 0 a.2.2.2.2.2.1.2,slV p M.sz 0 a.2.2.2.2.2.2.2]) u27 Z mb Z (b.u 1 Z Z)) Z<|kk (t:=41) Z Z (gj (us:=[R d,R c,y,f,j,z,l]) u27 Z mb Z (b.u 7 Z Z)) Z<|aK h fun b5 bG h=>mo (t:=41) Z Z (by kernel_rfl) Z (ny a.1 a.2.1 a.2.2.1.2 a.2.2.2.1.2 a.2.2.2.2.1.2 a.2.2.2.2.2.1.2 a.2.2.2.2.2.2.2 d c bG (b.ro 2 Z).rp ag (b.ro 3 Z).rp ah (b.ro 4 Z).rp aa (b.ro 5 Z).rp ab (b.ro 6 Z).rp ac (ae.f b.fr).rp (E.f b.fr).rp (G.f b.fr).rp (af.f b.fr).rp (S.f b.fr).rp) Z ?_
    rintro _ w ⟨rfl,T⟩
    have b:=b.p T
    refine J 3 Z ?_
    cases aC:(!b5)
    case true=>
     have h:=md h aC
     try simp only[aC]
     exact J 5 Z<|gl3<|ef (az true _ _ ⟨Z,(b.j [7,1,2,3,4,5,6,0] Z Z)⟩ h) Z
    case false=>
     have h:=me h aC
     try simp only[aC]
     refine J 2 Z<|aK h fun b6 bH h=>mo (t:=47) Z Z (by kernel_rfl) Z (ol m.2 bH (b.ro 0 Z).rp ad (bj.f b.fr).rp) Z ?_
     rintro _ w ⟨rfl,T⟩
     have b:=b.p T
     exact J 2 Z<|gl3<|ef (az (!b6) _ _ ⟨Z,(b.j [7,1,2,3,4,5,6,0] Z Z)⟩ h) Z
 rintro ci L w hJ h
 try dsimp only at hJ
 obtain⟨rfl,b⟩:=hJ
 unfold F.VL at h
 apply gl9 Z h<;>intro h
 ·refine gl4<|J 1 Z<|gl8 ?_
  cases h
  exact gc Z Z ⟨Z,b.j [] Z Z⟩
 refine gl5 ?_
 refine iF (r:=r) (fun (g:L00) L w=>L=[(0,R a0),(2,vS a2),(5,Q ay 0),(9,Q C 0),(10,slV D M.sz 0 m.2)]/\m.2<=g.length/\St [] w0 w [X ay [R d,R c,y,f,j,z,l],X C [R a.1,R a.2.1,slV u M.sz 0 a.2.2.1.2,slV x M.sz 0 a.2.2.2.1.2,slV n M.sz 0 a.2.2.2.2.1.2,slV o M.sz 0 a.2.2.2.2.2.1.2,slV p M.sz 0 a.2.2.2.2.2.2.2],W M u a.2.2.1.1,W M x a.2.2.2.1.1,W M n a.2.2.2.2.1.1,W M o a.2.2.2.2.2.1.1,W M p a.2.2.2.2.2.2.1,W M D g]) (F.XD a0 d c aL am an aM ao a2 a m) ?_ ?_
 rotate_left
 ·intro aR
  refine gl4<|J 1 Z<|aQ (dV u25 Z ((b.ro 7 Z).tk ad)) Z<|J 1 Z<|gl3 ?_
  apply gl9 Z h<;>intro h
  ·refine bS<|J 2 Z<|aQ (dV u25 Z ((b.ro 7 Z).tk ad)) Z<|aQ (bk Z Z (wN _ ((m.1.take m.2).length:Int) 2 q11)) Z<|J 2 Z<|aQ (dV u25 Z ((b.ro 7 Z).tk ad)) Z<|aQ (bk Z Z (wN _ ((m.1.take m.2).length:Int) 2 q11)) Z<|aK h fun bn aS h=>aQ (lF u25 ti5 Z Z (b.ro 7 Z) ad aS) Z<|aQ (iu Tryz.underlying5 Z Z (b.ro 7 Z) (lK aS) Z) Z<|aQ (bk Z Z (pQ _ bn 4)) Z<|aK h fun cj aT h=>aQ (lF u25 ti5 Z Z (b.ro 7 Z) ad aT) Z<|kP (nF (t:=(bn ^^^ 4)) ti5 Z Z b (i:=7) Z (lK aT) Z) fun w b=>jp h fun b7 aU h=>?_
   rw[aU]at b
   exact gl3<|ef (aR b7 _ _ ⟨Z,(by rw[<-aU,bM]; exact ad),b⟩ h) Z
  exact gl5<|ef (aR m.1 _ _ ⟨Z,ad,b⟩ h) Z
 rintro s L w hJ h
 try dsimp only at hJ
 obtain⟨rfl,aq,b⟩:=hJ
 unfold F.XD at h
 refine gl4<|J 1 Z<|gl2<|J 2 Z<|aK h fun ai bI h=>mg (pJ u25 ti5 Z Z Z b ((b.ro 7 Z).tk aq) bI) Z fun aj w b=>J 1 Z<|gl2<|J 1 Z<|aQ (gj (us:=[R a.1,R a.2.1,slV u M.sz 0 a.2.2.1.2,slV x M.sz 0 a.2.2.2.1.2,slV n M.sz 0 a.2.2.2.2.1.2,slV o M.sz 0 a.2.2.2.2.2.1.2,slV p M.sz 0 a.2.2.2.2.2.2.2]) u27 Z mb Z (b.u 2 Z Z)) Z<|J 2 Z<|aK h fun b8 bJ h=>my b Z (pA a0 a.1 a.2.1 a2 bJ (hT.f b.fr) ((b.ro 3 Z).tk ag).rp ((b.ro 4 Z).tk ah).rp ((b.ro 5 Z).tk aa).rp ((b.ro 6 Z).tk ab).rp ((b.ro 7 Z).tk ac).rp ((b.ro 8 Z).tk aq).rp) Z fun w b=>J 1 Z<|gl1 ?_
 refine iF (r:=r) (fun (g:Bool) L w=>L=[(0,R a0),(2,vS a2),(5,Q ay 0),(9,Q C 0),(10,slV D M.sz 0 m.2),(13,aj),(94,P g)]/\St [] w0 w [X ay [R d,R c,y,f,j,z,l],X C [R a.1,R a.2.1,slV u M.sz 0 a.2.2.1.2,slV x M.sz 0 a.2.2.2.1.2,slV n M.sz 0 a.2.2.2.2.1.2,slV o M.sz 0 a.2.2.2.2.2.1.2,slV p M.sz 0 a.2.2.2.2.2.2.2],W M u a.2.2.1.1,W M x a.2.2.2.1.1,W M n a.2.2.2.2.1.1,W M o a.2.2.2.2.2.1.1,W M p a.2.2.2.2.2.2.1,W M D s,W M aj ai]) (F.Zh aL aM a2 a a0 d c am an ao m s ai) ?_ ?_
 rotate_left
 ·intro aO
  refine bS<|J 2 Z<|aQ (gj (us:=[R d,R c,y,f,j,z,l]) u27 Z mb Z (b.u 1 Z Z)) Z<|J 2 Z<|aK h fun b9 bK h=>my b Z (oq a0 d c a2 bK (hT.f b.fr) (ae.f b.fr).rp (E.f b.fr).rp (G.f b.fr).rp (af.f b.fr).rp (S.f b.fr).rp (b.ro 0 Z).rp) Z fun w b=>J 2 Z ?_
  cases aD:(b8 != b9)
  case true=>
   have h:=md h aD
   try simp only[aD]
   exact J 11 Z<|gl3<|ef (aO true _ _ ⟨Z,(b.j [1,2,3,4,5,6,7,8,0] Z Z)⟩ h) Z
  case false=>
   have h:=me h aD
   try simp only[aD]
   refine kk (t:=83) Z Z (gj (us:=[R a.1,R a.2.1,slV u M.sz 0 a.2.2.1.2,slV x M.sz 0 a.2.2.2.1.2,slV n M.sz 0 a.2.2.2.2.1.2,slV o M.sz 0 a.2.2.2.2.2.1.2,slV p M.sz 0 a.2.2.2.2.2.2.2]) u27 Z mb Z (b.u 2 Z Z)) Z<|kk (t:=83) Z Z (gj (us:=[R d,R c,y,f,j,z,l]) u27 Z mb Z (b.u 1 Z Z)) Z<|aK h fun ca bN h=>mo (t:=83) Z Z (by kernel_rfl) Z (ny a.1 a.2.1 a.2.2.1.2 a.2.2.2.1.2 a.2.2.2.2.1.2 a.2.2.2.2.2.1.2 a.2.2.2.2.2.2.2 d c bN (b.ro 3 Z).rp ag (b.ro 4 Z).rp ah (b.ro 5 Z).rp aa (b.ro 6 Z).rp ab (b.ro 7 Z).rp ac (ae.f b.fr).rp (E.f b.fr).rp (G.f b.fr).rp (af.f b.fr).rp (S.f b.fr).rp) Z ?_
   rintro _ w ⟨rfl,T⟩
   have b:=b.p T
   refine J 3 Z ?_
   cases aE:(!ca)
   case true=>
    have h:=md h aE
    try simp only[aE]
    exact J 5 Z<|gl3<|ef (aO true _ _ ⟨Z,(b.j [1,2,3,4,5,6,7,8,0] Z Z)⟩ h) Z
   case false=>
    have h:=me h aE
    try simp only[aE]
    refine J 2 Z<|aK h fun cb bO h=>mo (t:=89) Z Z (by kernel_rfl) Z (ol m.2 bO (b.ro 8 Z).rp aq (b.ro 0 Z).rp) Z ?_
    rintro _ w ⟨rfl,T⟩
    have b:=b.p T
    exact J 2 Z<|gl3<|ef (aO (!cb) _ _ ⟨Z,(b.j [1,2,3,4,5,6,7,8,0] Z Z)⟩ h) Z
 rintro ck L w hJ h
 try dsimp only at hJ
 obtain⟨rfl,b⟩:=hJ
 unfold F.Zh at h
 apply gl9 Z h<;>intro h
 ·refine gl4<|J 1 Z<|gl8 ?_
  cases h
  exact gc Z Z ⟨Z,b.j [] Z Z⟩
 refine gl5<|cw<|gl4<|J 1 Z<|aQ (Du Tryz.underlying9 Z) Z<|aQ (bk Z Z (uo _ (a2.length:Int) 3 q11)) Z<|J 1 Z<|gl3 ?_
 apply gl9 Z h<;>intro h
 ·refine gl4<|J 1 Z<|gl8 ?_
  cases h
  exact gc Z Z ⟨Z,b.j [] Z Z⟩
 refine gl6<|aQ (gj (us:=[R d,R c,y,f,j,z,l]) u27 Z mb Z (b.u 0 Z Z)) Z<|mZ (mx (cs:=[R 0,R 0,L02,L02,L02,L02,L02]) Ld Z b) Z fun ak w b=>kP (mG (i:=0) (us:=[R d,R c,y,f,j,z,l]) Z mb Z Z Z ⟨Z,Z,(ae.f b.fr).one,(E.f b.fr).one,(G.f b.fr).one,(af.f b.fr).one,(S.f b.fr).one,I⟩ Z b) fun w b=>gl1 ?_
 refine bS<|aQ (dH (k:=2) u27 Z Z nk Z) Z<|kP (mG (i:=0) (us:=[L02]) Z Hv Z Z Z ⟨Z,I⟩ Z b) fun w b=>gl1 ?_
 refine bS<|aQ (dH (k:=2) u27 Z Z nk Z) Z<|aQ (bX u25 Z Z (b.w 0 Z 2)) Z<|aQ (dH (k:=2) u27 Z Z nk Z) Z<|aQ (bX u25 Z Z (b.w 1 Z 2)) Z<|aK h fun bo bP h=>mg (pJ u25 ti5 Z Z Z b (ae.f b.fr) bP) Z fun A w b=>aQ (dH (k:=2) u27 Z Z nk Z) Z<|kP (mG (i:=1) (us:=[A]) Z Hv Z Z (nG (b.ro 0 Z).one) ⟨(b.ro 0 Z).one,I⟩ Z b) fun w b=>gl1 ?_
 refine bS<|aQ (dH (k:=5) u27 Z Z nk Z) Z<|kP (mG (i:=1) (us:=[L02]) Z Hv Z Z Z ⟨Z,I⟩ Z b) fun w b=>gl1 ?_
 refine bS<|aQ (dH (k:=5) u27 Z Z nk Z) Z<|aQ (bX u25 Z Z (b.w 1 Z 5)) Z<|aQ (dH (k:=5) u27 Z Z nk Z) Z<|aQ (bX u25 Z Z (b.w 2 Z 5)) Z<|aK h fun av bQ h=>mg (pJ u25 ti5 Z Z Z b (af.f b.fr) bQ) Z fun B w b=>aQ (dH (k:=5) u27 Z Z nk Z) Z<|kP (mG (i:=2) (us:=[B]) Z Hv Z Z (nG (b.ro 0 Z).one) ⟨(b.ro 0 Z).one,I⟩ Z b) fun w b=>gl3 ?_
 refine iF (r:=r) (fun (g:L00×L00) L w=>L=[(0,R a0),(2,vS a2),(9,Q C 0),(10,slV D M.sz 0 m.2),(13,aj),(14,Q ak 0)]/\a.2.2.1.2<=g.1.length/\St [] w0 w [X C [R a.1,R a.2.1,slV u M.sz 0 a.2.2.1.2,slV x M.sz 0 a.2.2.2.1.2,slV n M.sz 0 a.2.2.2.2.1.2,slV o M.sz 0 a.2.2.2.2.2.1.2,slV p M.sz 0 a.2.2.2.2.2.2.2],W M u g.1,W M x a.2.2.2.1.1,W M n a.2.2.2.2.1.1,W M o a.2.2.2.2.2.1.1,W M p a.2.2.2.2.2.2.1,W M D s,W M aj ai,X ak [R d,R c,A,f,j,B,l],W M A g.2,W M B av]) (F.Yj a av a0 d c am an ao a2 m s ai) ?_ ?_
 rotate_left
 ·intro aV
  refine gl4<|aQ (dH (k:=2) u27 Z Z nk Z) Z<|aQ (bX u25 Z Z (b.w 2 Z 2)) Z<|aQ (dV u25 Z (b.ro 1 Z)) Z<|J 1 Z<|gl3 ?_
  apply gl9 Z h<;>intro h
  ·refine cw<|gV (fun w'=>St [] w0 w' [W M B av,W M A bo,X ak [R d,R c,A,f,j,B,l],X ay [R d,R c,y,f,j,z,l],X C [R a.1,R a.2.1,slV u M.sz 0 a.2.2.1.2,slV x M.sz 0 a.2.2.2.1.2,slV n M.sz 0 a.2.2.2.2.1.2,slV o M.sz 0 a.2.2.2.2.2.1.2,slV p M.sz 0 a.2.2.2.2.2.2.2],W M u a.2.2.1.1,W M x a.2.2.2.1.1,W M n a.2.2.2.2.1.1,W M o a.2.2.2.2.2.1.1,W M p a.2.2.2.2.2.2.1,W M D s,W M aj ai]) (fun i=>!([8].contains i)) gC (fun _ _ _ hf=>hf.2) (fun _ _ hf=>hf) (by kernel_rfl)<|have b:=b.drew;show lxE _ _ _ _ _ _ _ [0,1,2,3,4,5,6,7,8] _ _ from aN b Z Z (fun w q=>dH (k:=2) u27 Z Z nk Z) Z<|aN b Z Z (fun w q=>bX u25 Z Z (q.w 2 Z 2)) Z<|aN b Z Z (fun w q=>dH (k:=2) u27 Z Z nk Z) Z<|aN b Z Z (fun w q=>bX u25 Z Z (q.w 2 Z 2)) Z<|aK h fun bp aW h=>aN b Z Z (fun w q=>mz u25 ti5 Z Z (q.ro 1 Z) aW) Z<|aN b Z Z (fun w q=>iu Tryz.underlying5 Z Z (q.ro 1 Z) aW Z) Z<|aN b Z Z (fun w q=>bk Z Z (pQ _ bp 1)) Z<|aK h fun cl aX h=>aN b Z Z (fun w q=>mz u25 ti5 Z Z (q.ro 1 Z) aX) Z<|mD b Z Z (nF (t:=(bp ^^^ 1)) ti5 Z Z b (i:=1) Z aX Z) ?_
   intro w b
   obtain⟨bq,bR,h⟩:=ke h
   rw[bR]at b
   refine gf I<|bL<|gV (fun w'=>St [] w0 w' [W M B av,W M A bq,X ak [R d,R c,A,f,j,B,l],X ay [R d,R c,y,f,j,z,l],X C [R a.1,R a.2.1,slV u M.sz 0 a.2.2.1.2,slV x M.sz 0 a.2.2.2.1.2,slV n M.sz 0 a.2.2.2.2.1.2,slV o M.sz 0 a.2.2.2.2.2.1.2,slV p M.sz 0 a.2.2.2.2.2.2.2],W M u a.2.2.1.1,W M x a.2.2.2.1.1,W M n a.2.2.2.2.1.1,W M o a.2.2.2.2.2.1.1,W M p a.2.2.2.2.2.2.1,W M D s,W M aj ai]) (fun i=>!([8].contains i)) gC (fun _ _ _ hf=>hf.2) (fun _ _ hf=>hf) (by kernel_rfl)<|have b:=b.drew;show lxE _ _ _ _ _ _ _ [0,1,2,3,4,5,6,7,8] _ _ from aN b Z Z (fun w q=>dH (k:=2) u27 Z Z nk Z) Z<|aN b Z Z (fun w q=>bX u25 Z Z (q.w 4 Z 2)) Z<|aN b Z Z (fun w q=>dH (k:=2) u27 Z Z nk Z) Z<|aN b Z Z (fun w q=>bX u25 Z Z (q.w 4 Z 2)) Z<|aK h fun br aY h=>aN b Z Z (fun w q=>lF u25 ti5 Z Z (q.ro 5 Z) ag aY) Z<|aN b Z Z (fun w q=>iu Tryz.underlying5 Z Z (q.ro 5 Z) (lK aY) Z) Z<|aN b Z Z (fun w q=>bk Z Z (pQ _ br 1)) Z<|aK h fun cm aZ h=>aN b Z Z (fun w q=>lF u25 ti5 Z Z (q.ro 5 Z) ag aZ) Z<|mD b Z Z (nF (t:=(br ^^^ 1)) ti5 Z Z b (i:=5) Z (lK aZ) Z) ?_
   intro w b
   obtain⟨cc,ba,h⟩:=ke h
   rw[ba]at b
   exact gf I<|bL<|ef (aV (cc,bq) _ _ ⟨Z,(by rw[<-ba,bM]; exact ag),(b.j [4,5,6,7,8,9,10,11,2,1,0] Z Z)⟩ h) Z
  exact gl5<|ef (aV (a.2.2.1.1,bo) _ _ ⟨Z,ag,(b.j [4,5,6,7,8,9,10,11,2,1,0] Z Z)⟩ h) Z
 rintro⟨aw,ax⟩ L w hJ h
 try dsimp only at hJ
 obtain⟨rfl,aF,b⟩:=hJ
 unfold F.Yj at h
 refine iF (r:=r) (fun (g:L00×L00) L w=>L=[(0,R a0),(2,vS a2),(9,Q C 0),(10,slV D M.sz 0 m.2),(13,aj),(14,Q ak 0)]/\a.2.2.2.2.2.1.2<=g.1.length/\St [] w0 w [X C [R a.1,R a.2.1,slV u M.sz 0 a.2.2.1.2,slV x M.sz 0 a.2.2.2.1.2,slV n M.sz 0 a.2.2.2.2.1.2,slV o M.sz 0 a.2.2.2.2.2.1.2,slV p M.sz 0 a.2.2.2.2.2.2.2],W M u aw,W M x a.2.2.2.1.1,W M n a.2.2.2.2.1.1,W M o g.1,W M p a.2.2.2.2.2.2.1,W M D s,W M aj ai,X ak [R d,R c,A,f,j,B,l],W M A ax,W M B g.2]) (F.Xn a0 d c am an ao a2 a m s ai aw ax) ?_ ?_
 rotate_left
 ·intro bb
  refine gl4<|aQ (dH (k:=5) u27 Z Z nk Z) Z<|aQ (bX u25 Z Z (b.w 8 Z 5)) Z<|aQ (dV u25 Z (b.ro 10 Z)) Z<|J 1 Z<|gl3 ?_
  apply gl9 Z h<;>intro h
  ·refine cw<|gV (fun w'=>St [] w0 w' [X C [R a.1,R a.2.1,slV u M.sz 0 a.2.2.1.2,slV x M.sz 0 a.2.2.2.1.2,slV n M.sz 0 a.2.2.2.2.1.2,slV o M.sz 0 a.2.2.2.2.2.1.2,slV p M.sz 0 a.2.2.2.2.2.2.2],W M u aw,W M x a.2.2.2.1.1,W M n a.2.2.2.2.1.1,W M o a.2.2.2.2.2.1.1,W M p a.2.2.2.2.2.2.1,W M D s,W M aj ai,X ak [R d,R c,A,f,j,B,l],W M A ax,W M B av]) (fun i=>!([8].contains i)) gC (fun _ _ _ hf=>hf.2) (fun _ _ hf=>hf) (by kernel_rfl)<|have b:=b.drew;show lxE _ _ _ _ _ _ _ [0,1,2,3,4,5,6,7,8] _ _ from aN b Z Z (fun w q=>dH (k:=5) u27 Z Z nk Z) Z<|aN b Z Z (fun w q=>bX u25 Z Z (q.w 8 Z 5)) Z<|aN b Z Z (fun w q=>dH (k:=5) u27 Z Z nk Z) Z<|aN b Z Z (fun w q=>bX u25 Z Z (q.w 8 Z 5)) Z<|aK h fun bs bc h=>aN b Z Z (fun w q=>mz u25 ti5 Z Z (q.ro 10 Z) bc) Z<|aN b Z Z (fun w q=>iu Tryz.underlying5 Z Z (q.ro 10 Z) bc Z) Z<|aN b Z Z (fun w q=>bk Z Z (pQ _ bs 1)) Z<|aK h fun cn bd h=>aN b Z Z (fun w q=>mz u25 ti5 Z Z (q.ro 10 Z) bd) Z<|mD b Z Z (nF (t:=(bs ^^^ 1)) ti5 Z Z b (i:=10) Z bd Z) fun w b=>jp h fun bt bT h=>?_
   rw[bT]at b
   refine gf I<|bL<|gV (fun w'=>St [] w0 w' [X C [R a.1,R a.2.1,slV u M.sz 0 a.2.2.1.2,slV x M.sz 0 a.2.2.2.1.2,slV n M.sz 0 a.2.2.2.2.1.2,slV o M.sz 0 a.2.2.2.2.2.1.2,slV p M.sz 0 a.2.2.2.2.2.2.2],W M u aw,W M x a.2.2.2.1.1,W M n a.2.2.2.2.1.1,W M o a.2.2.2.2.2.1.1,W M p a.2.2.2.2.2.2.1,W M D s,W M aj ai,X ak [R d,R c,A,f,j,B,l],W M A ax,W M B bt]) (fun i=>!([8].contains i)) gC (fun _ _ _ hf=>hf.2) (fun _ _ hf=>hf) (by kernel_rfl)<|have b:=b.drew;show lxE _ _ _ _ _ _ _ [0,1,2,3,4,5,6,7,8] _ _ from aN b Z Z (fun w q=>dH (k:=5) u27 Z Z nk Z) Z<|aN b Z Z (fun w q=>bX u25 Z Z (q.w 0 Z 5)) Z<|aN b Z Z (fun w q=>dH (k:=5) u27 Z Z nk Z) Z<|aN b Z Z (fun w q=>bX u25 Z Z (q.w 0 Z 5)) Z<|aK h fun bu be h=>aN b Z Z (fun w q=>lF u25 ti5 Z Z (q.ro 4 Z) ab be) Z<|aN b Z Z (fun w q=>iu Tryz.underlying5 Z Z (q.ro 4 Z) (lK be) Z) Z<|aN b Z Z (fun w q=>bk Z Z (pQ _ bu 1)) Z<|aK h fun co bf h=>aN b Z Z (fun w q=>lF u25 ti5 Z Z (q.ro 4 Z) ab bf) Z<|mD b Z Z (nF (t:=(bu ^^^ 1)) ti5 Z Z b (i:=4) Z (lK bf) Z) fun w b=>?_
   obtain⟨cd,bg,h⟩:=ke h
   rw[bg]at b
   exact gf I<|bL<|ef (bb (cd,bt) _ _ ⟨Z,(by rw[<-bg,bM]; exact ab),b⟩ h) Z
  exact gl5<|ef (bb (a.2.2.2.2.2.1.1,av) _ _ ⟨Z,ab,b⟩ h) Z
 rintro⟨bv,bw⟩ L w hJ h
 try dsimp only at hJ
 obtain⟨rfl,aG,b⟩:=hJ
 unfold F.Xn at h
 refine gl4<|J 1 Z<|aQ (gj (us:=[R a.1,R a.2.1,slV u M.sz 0 a.2.2.1.2,slV x M.sz 0 a.2.2.2.1.2,slV n M.sz 0 a.2.2.2.2.1.2,slV o M.sz 0 a.2.2.2.2.2.1.2,slV p M.sz 0 a.2.2.2.2.2.2.2]) u27 Z mb Z (b.u 0 Z Z)) Z<|J 2 Z<|aK h fun ce bU h=>my b Z (pA a0 a.1 a.2.1 a2 bU (hT.f b.fr) ((b.ro 1 Z).tk aF).rp ((b.ro 2 Z).tk ah).rp ((b.ro 3 Z).tk aa).rp ((b.ro 4 Z).tk aG).rp ((b.ro 5 Z).tk ac).rp ((b.ro 6 Z).tk aq).rp) Z fun w b=>J 1 Z<|gl1 ?_
 refine iF (r:=r) (fun (g:Bool) L w=>L=[(0,R a0),(9,Q C 0),(10,slV D M.sz 0 m.2),(14,Q ak 0),(177,P g)]/\St [] w0 w [X C [R a.1,R a.2.1,slV u M.sz 0 a.2.2.1.2,slV x M.sz 0 a.2.2.2.1.2,slV n M.sz 0 a.2.2.2.2.1.2,slV o M.sz 0 a.2.2.2.2.2.1.2,slV p M.sz 0 a.2.2.2.2.2.2.2],W M u aw,W M x a.2.2.2.1.1,W M n a.2.2.2.2.1.1,W M o bv,W M p a.2.2.2.2.2.2.1,W M D s,X ak [R d,R c,A,f,j,B,l],W M A ax,W M B bw]) (F.XN a0 c am an ao a m s aw ax bv bw) ?_ ?_
 rotate_left
 ·intro aP
  refine bS<|J 2 Z<|aQ (gj (us:=[R d,R c,A,f,j,B,l]) u27 Z mb Z (b.u 8 Z Z)) Z<|J 2 Z<|aK h fun cf bV h=>my b Z (oq a0 d c a2 bV (hT.f b.fr) (b.ro 9 Z).rp (E.f b.fr).rp (G.f b.fr).rp (b.ro 10 Z).rp (S.f b.fr).rp (b.ro 7 Z).rp) Z fun w b=>J 2 Z ?_
  cases aH:(ce != cf)
  case true=>
   have h:=md h aH
   try simp only[aH]
   exact J 11 Z<|gl3<|ef (aP true _ _ ⟨Z,(b.j [0,1,2,3,4,5,6,8,9,10] Z Z)⟩ h) Z
  case false=>
   have h:=me h aH
   try simp only[aH]
   refine kk (t:=166) Z Z (gj (us:=[R a.1,R a.2.1,slV u M.sz 0 a.2.2.1.2,slV x M.sz 0 a.2.2.2.1.2,slV n M.sz 0 a.2.2.2.2.1.2,slV o M.sz 0 a.2.2.2.2.2.1.2,slV p M.sz 0 a.2.2.2.2.2.2.2]) u27 Z mb Z (b.u 0 Z Z)) Z<|kk (t:=166) Z Z (gj (us:=[R d,R c,A,f,j,B,l]) u27 Z mb Z (b.u 8 Z Z)) Z<|aK h fun cg bW h=>mo (t:=166) Z Z (by kernel_rfl) Z (ny a.1 a.2.1 a.2.2.1.2 a.2.2.2.1.2 a.2.2.2.2.1.2 a.2.2.2.2.2.1.2 a.2.2.2.2.2.2.2 d c bW (b.ro 1 Z).rp aF (b.ro 2 Z).rp ah (b.ro 3 Z).rp aa (b.ro 4 Z).rp aG (b.ro 5 Z).rp ac (b.ro 9 Z).rp (E.f b.fr).rp (G.f b.fr).rp (b.ro 10 Z).rp (S.f b.fr).rp) Z ?_
   rintro _ w ⟨rfl,T⟩
   have b:=b.p T
   refine J 3 Z ?_
   cases aI:(!cg)
   case true=>
    have h:=md h aI
    try simp only[aI]
    exact J 5 Z<|gl3<|ef (aP true _ _ ⟨Z,(b.j [0,1,2,3,4,5,6,8,9,10] Z Z)⟩ h) Z
   case false=>
    have h:=me h aI
    try simp only[aI]
    refine J 2 Z<|aK h fun ch bY h=>mo (t:=172) Z Z (by kernel_rfl) Z (ol m.2 bY (b.ro 6 Z).rp aq (b.ro 7 Z).rp) Z ?_
    rintro _ w ⟨rfl,T⟩
    have b:=b.p T
    exact J 2 Z<|gl3<|ef (aP (!ch) _ _ ⟨Z,(b.j [0,1,2,3,4,5,6,8,9,10] Z Z)⟩ h) Z
 rintro cp L w hJ h
 try dsimp only at hJ
 obtain⟨rfl,b⟩:=hJ
 unfold F.XN at h
 apply gl9 Z h<;>intro h
 ·refine gl4<|J 1 Z<|gl8 ?_
  cases h
  exact gc Z Z ⟨Z,b.j [] Z Z⟩
 refine gl6<|J 1 Z<|aQ (dV u25 Z ((b.ro 6 Z).tk aq)) Z<|aQ (bk Z Z (uo _ ((s.take m.2).length:Int) 5 q11)) Z<|aQ (dH (k:=0) u27 Z Z K5 Z) Z<|kP (mG (i:=0) (us:=[R (Int.tmod ((s.take m.2).length:Int) 5)]) Z Q1 Z Z Z ⟨Z,I⟩ Z b) fun w b=>gl1 ?_
 refine bS<|aQ (dH (k:=0) u27 Z Z K5 Z) Z<|aQ (bX Tryz.underlying23 Z Z (b.w 0 Z 0)) Z<|aQ (dH (k:=0) u27 Z Z K5 Z) Z<|kP (mG (i:=7) (us:=[R (Int.tmod ((s.take m.2).length:Int) 5)]) Z Q1 Z Z Z ⟨Z,I⟩ Z b) fun w b=>gl1 ?_
 refine bS<|J 1 Z<|aQ (gj (us:=[R (Int.tmod ((s.take m.2).length:Int) 5),R a.2.1,slV u M.sz 0 a.2.2.1.2,slV x M.sz 0 a.2.2.2.1.2,slV n M.sz 0 a.2.2.2.2.1.2,slV o M.sz 0 a.2.2.2.2.2.1.2,slV p M.sz 0 a.2.2.2.2.2.2.2]) u27 Z mb Z (b.u 0 Z Z)) Z<|aK h fun bz bZ h=>my b Z (si a0 (Int.tmod ((s.take m.2).length:Int) 5) a.2.1 bZ ((b.ro 1 Z).tk aF).rp ((b.ro 2 Z).tk ah).rp ((b.ro 3 Z).tk aa).rp ((b.ro 4 Z).tk aG).rp ((b.ro 5 Z).tk ac).rp) Z fun w b=>J 1 Z<|gl2<|J 2 Z<|aQ (gj (us:=[R (Int.tmod ((s.take m.2).length:Int) 5),R c,A,f,j,B,l]) u27 Z mb Z (b.u 7 Z Z)) Z<|aK h fun bA b0 h=>my b Z (qH a0 (Int.tmod ((s.take m.2).length:Int) 5) c b0 (b.ro 8 Z).rp (E.f b.fr).rp (G.f b.fr).rp (b.ro 9 Z).rp (S.f b.fr).rp) Z fun w b=>aQ (bk Z Z (Ig _ bz bA Tryz.underlying4 Z)) Z<|J 1 Z ?_
 cases aJ:(bz == bA)
 case true=>
  have h:=md h aJ
  try simp only[aJ]
  refine kk (t:=193) Z Z (gj (us:=[R (Int.tmod ((s.take m.2).length:Int) 5),R a.2.1,slV u M.sz 0 a.2.2.1.2,slV x M.sz 0 a.2.2.2.1.2,slV n M.sz 0 a.2.2.2.2.1.2,slV o M.sz 0 a.2.2.2.2.2.1.2,slV p M.sz 0 a.2.2.2.2.2.2.2]) u27 Z mb Z (b.u 0 Z Z)) Z<|kk (t:=193) Z Z (gj (us:=[R (Int.tmod ((s.take m.2).length:Int) 5),R c,A,f,j,B,l]) u27 Z mb Z (b.u 7 Z Z)) Z<|aK h fun cq b1 h=>mo (t:=193) Z Z (by kernel_rfl) Z (ny (Int.tmod ((s.take m.2).length:Int) 5) a.2.1 a.2.2.1.2 a.2.2.2.1.2 a.2.2.2.2.1.2 a.2.2.2.2.2.1.2 a.2.2.2.2.2.2.2 (Int.tmod ((s.take m.2).length:Int) 5) c b1 (b.ro 1 Z).rp aF (b.ro 2 Z).rp ah (b.ro 3 Z).rp aa (b.ro 4 Z).rp aG (b.ro 5 Z).rp ac (b.ro 8 Z).rp (E.f b.fr).rp (G.f b.fr).rp (b.ro 9 Z).rp (S.f b.fr).rp) Z ?_
  rintro _ w ⟨rfl,T⟩
  have b:=b.p T
  refine J 2 Z<|gl3<|iY ?_
  cases h
  exact gc Z Z ⟨Z,b.j [] Z Z⟩
 case false=>
  have h:=me h aJ
  try simp only[aJ]
  refine J 5 Z<|gl3<|iY ?_
  cases h
  exact gc Z Z ⟨Z,b.j [] Z Z⟩
end Go.Proofs
