import Derived.Test.YtmegjloifgfldaaGreatDoorRW0
import Derived.Test.YtmegjloifgfldaaGreatDoorGkFb64
import Derived.Test.YtmegjloifgfldaaGreatDoorRWcurvec
import Derived.Test.YtmegjloifgfldaaGreatDoorRWedb
import Derived.Test.YtmegjloifgfldaaGreatDoorRWrsa1
set_option linter.unusedVariables false
set_option linter.unusedSimpArgs false
set_option linter.unusedSectionVars false
set_option maxRecDepth 4000
namespace Go.Proofs
open Go Go.RowKit Go.Gk
open Go.Gk renaming aa -> V, af -> M, ag -> O, ai -> J, gl3 -> Q, gl4 -> R, pB -> P, vB -> N, vI -> H
open Go.Gk.OE renaming bx -> Y
theorem ij {d:World} {a0:List Q1} {a:Value} {s0:List SV} {r:Bool}
  (h:F.GX a0=some r) (e:RP [] d eV a s0) (hl0:il [] d e8 s0 a0):Calls Tryz.prog 105 #[a] d (Ret fun v w=>v=N r/\St [] d w []):=by
 refine ay 19 Tryz.func105 Z Z Z<|have b:=St.k d;ax [(0,a)] Z ?_
 unfold F.GX at h
 refine R<|V 1 Z<|gl2<|V 1 Z<|gl1<|R<|V 1 Z<|O (tI u117 Z (e.b b.fr) hl0.len) Z<|V 1 Z<|Q<|av<|ax [(3,H 0),(6,a),(7,H (a0.length:Int)),(8,H 0)] Z ?_
 refine bf (F.H9 a0) (fun (s:Int×Int) L w=>L=[(3,H s.1),(6,a),(7,H (a0.length:Int)),(8,H s.2)]/\St [] d w []) ?_ (0,0) ⟨Z,b⟩ h
 rintro o ⟨q,m⟩ L w t n j h f
 try dsimp only at n
 obtain⟨rfl,b⟩:=n
 unfold F.H9 at h
 refine R<|V 1 Z<|gl1 ?_
 apply gl9 Z h<;>intro h
 ·refine gl5<|az<|av<|R<|M h fun u k h=>?_
  obtain⟨p,c,g⟩:=hl0.get k
  exact O (bh u117 iy Z Z (e.b b.fr) c) Z<|O (aX u25 Z Z (e.b b.fr) c Z) Z<|V 1 Z<|Q<|al<|V 2 Z<|O (aD u25 Z (g.b b.fr)) Z<|V 1 Z<|bg h fun i l h=>O (bd (v:=H i) (by rw[<-l]; rfl)) Z<|aG<|aH<|am<|al<|V 2 Z<|aG<|bo (br (j (i,wI (m+1)) _ _ ⟨Z,b⟩ (aW h f)) Z)
 refine aZ<|aA<|aA<|have h:=aR h f;a7<|am<|R<|V 3 Z<|Q<|aq ?_
 cases h
 exact au Z Z ⟨Z,b⟩
theorem ww {B:World} {C ac ad T ae:Q1} {b c d j f:Value} (A n:Int) {r:Bool}
  (h:F.Kv A n C ac ad T ae=some r) (hT:TB [] B) (m:RP [] B e8 b C) (o:RP [] B e8 c ac) (p:RP [] B e8 d ad) (s:RP [] B e8 j T) (q:RP [] B e8 f ae):Calls Tryz.prog 54 #[.agg #[H A,H n,b,c,d,j,f]] B (Ret fun v w=>v=N r/\St [] B w []):=by
 refine ay 111 Tryz.func54 Z Z Z<|have a:=St.k B;ax [(0,.agg #[H A,H n,b,c,d,j,f])] Z ?_
 unfold F.Kv at h
 refine R<|bl (cy (cs:=[H A,H n,b,c,d,j,f]) Z Z a) Z fun aA w a=>V 1 Z<|gl1<|R<|O (ak (k:=0) u27 Z Z lF Z) Z<|O (ar u23 Z Z (a.q 0 Z 0)) Z<|Q<|av<|R<|V 2 Z<|Q ?_
 apply gl9 Z h<;>intro h
 ·refine R<|O (ak (k:=1) u27 Z Z qb Z) Z<|O (ar u24 Z Z (a.q 0 Z 1)) Z<|V 2 Z ?_
  cases D:(n == 0)
  case true=>
   have h:=bH h D
   try simp only[D]
   refine aO (t:=14) Z Z (ak (k:=2) u27 Z Z dU Z) Z<|aO (t:=14) Z Z (ar u25 Z Z (a.q 0 Z 2)) Z<|aO (t:=14) Z Z (aD u25 Z (m.b a.fr)) Z<|V 3 Z ?_
   cases E:(decide ((32:Int)<=(C.length:Int)))
   case true=>
    have h:=bH h E
    try simp only[E]
    refine aO (t:=20) Z Z (ak (k:=2) u27 Z Z dU Z) Z<|aO (t:=20) Z Z (ar u25 Z Z (a.q 0 Z 2)) Z<|aO (t:=20) Z Z (aD u25 Z (m.b a.fr)) Z<|V 3 Z ?_
    cases G:(decide ((C.length:Int)<=4096))
    case true=>
     have h:=bH h G
     try simp only[G]
     refine aO (t:=26) Z Z (ak (k:=3) u27 Z Z dU Z) Z<|aO (t:=26) Z Z (ar u25 Z Z (a.q 0 Z 3)) Z<|aO (t:=26) Z Z (ak (k:=4) u27 Z Z dU Z) Z<|aO (t:=26) Z Z (ar u25 Z Z (a.q 0 Z 4)) Z<|aO (t:=26) Z Z (ak (k:=5) u27 Z Z dU Z) Z<|aO (t:=26) Z Z (ar u25 Z Z (a.q 0 Z 5)) Z<|aO (t:=26) Z Z (ak (k:=6) u27 Z Z dU Z) Z<|aO (t:=26) Z Z (ar u25 Z Z (a.q 0 Z 6)) Z<|kq (t:=26) Z Z (bJ (e:=eV) (l:=([SV.of c,SV.of d,SV.of j,SV.of f]:List SV)) (vs:=[c,d,j,f]) u117 iy Z Z Z (cb (o.b a.fr).sv (cb (p.b a.fr).sv (cb (s.b a.fr).sv (cb (q.b a.fr).sv Z)))) (by decide) (by decide) a) Z fun aZ w a=>M h fun a0 aC h=>bU (t:=26) Z Z (by kernel_rfl) Z (ij  aC (a.ro 0 Z).rp ⟨(o.b a.fr).svrp,(p.b a.fr).svrp,(s.b a.fr).svrp,(q.b a.fr).svrp,K⟩) Z ?_
     rintro _ w ⟨rfl,u⟩
     have a:=a.e u
     refine V 2 Z<|Q<|aq<|bb<|aN ?_
     cases h
     exact au Z Z ⟨Z,a.d [] Z Z⟩
    case false=>
     have h:=bI h G
     try simp only[G]
     refine V 12 Z<|Q<|aq<|bb<|aN ?_
     cases h
     exact au Z Z ⟨Z,a.d [] Z Z⟩
   case false=>
    have h:=bI h E
    try simp only[E]
    refine V 18 Z<|Q<|aq<|bb<|aN ?_
    cases h
    exact au Z Z ⟨Z,a.d [] Z Z⟩
  case false=>
   have h:=bI h D
   try simp only[D]
   refine V 24 Z<|Q<|aq<|bb<|aN ?_
   cases h
   exact au Z Z ⟨Z,a.d [] Z Z⟩
 refine R<|V 2 Z<|Q ?_
 apply gl9 Z h<;>intro h
 ·refine R<|O (ak (k:=1) u27 Z Z qb Z) Z<|O (ar u24 Z Z (a.q 0 Z 1)) Z<|V 2 Z ?_
  cases S:(n == 0)
  case true=>
   have h:=bH h S
   try simp only[S]
   refine aO (t:=43) Z Z (ak (k:=2) u27 Z Z dU Z) Z<|aO (t:=43) Z Z (ar u25 Z Z (a.q 0 Z 2)) Z<|aO (t:=43) Z Z (ak (k:=5) u27 Z Z dU Z) Z<|aO (t:=43) Z Z (ar u25 Z Z (a.q 0 Z 5)) Z<|aO (t:=43) Z Z (ak (k:=6) u27 Z Z dU Z) Z<|aO (t:=43) Z Z (ar u25 Z Z (a.q 0 Z 6)) Z<|kq (t:=43) Z Z (bJ (e:=eV) (l:=([SV.of b,SV.of j,SV.of f]:List SV)) (vs:=[b,j,f]) u117 iy Z Z Z (cb (m.b a.fr).sv (cb (s.b a.fr).sv (cb (q.b a.fr).sv Z))) (by decide) (by decide) a) Z fun aQ w a=>M h fun aE J h=>bU (t:=43) Z Z (by kernel_rfl) Z (ij  J (a.ro 0 Z).rp ⟨(m.b a.fr).svrp,(s.b a.fr).svrp,(q.b a.fr).svrp,K⟩) Z ?_
   rintro _ w ⟨rfl,u⟩
   have a:=a.e u
   refine V 2 Z ?_
   cases x:aE
   case true=>
    replace h:=bH h x
    subst x
    refine aO (t:=53) Z Z (ak (k:=3) u27 Z Z dU Z) Z<|aO (t:=53) Z Z (ar u25 Z Z (a.q 1 Z 3)) Z<|aO (t:=53) Z Z (ak (k:=4) u27 Z Z dU Z) Z<|aO (t:=53) Z Z (ar u25 Z Z (a.q 1 Z 4)) Z<|M h fun aR aj h=>bU (t:=53) Z Z (by kernel_rfl) Z (mS  aj (o.b a.fr).rp (p.b a.fr).rp) Z ?_
    rintro _ w ⟨rfl,u⟩
    have a:=a.e u
    refine V 3 Z<|Q<|aq<|bb<|aN ?_
    cases h
    exact au Z Z ⟨Z,a.d [] Z Z⟩
   case false=>
    replace h:=bI h x
    subst x
    refine V 8 Z<|Q<|aq<|bb<|aN ?_
    cases h
    exact au Z Z ⟨Z,a.d [] Z Z⟩
  case false=>
   have h:=bI h S
   try simp only[S]
   refine V 18 Z<|Q<|aq<|bb<|aN ?_
   cases h
   exact au Z Z ⟨Z,a.d [] Z Z⟩
 refine R<|V 2 Z<|Q ?_
 apply gl9 Z h<;>intro h
 ·refine R<|O (ak (k:=1) u27 Z Z qb Z) Z<|O (ar u24 Z Z (a.q 0 Z 1)) Z<|O (ak (k:=5) u27 Z Z dU Z) Z<|O (ar u25 Z Z (a.q 0 Z 5)) Z<|O (ak (k:=6) u27 Z Z dU Z) Z<|O (ar u25 Z Z (a.q 0 Z 6)) Z<|M h fun ah an h=>bA a Z (md n an (s.b a.fr).rp (q.b a.fr).rp) Z fun aF aG w a=>V 3 Z<|bl (bc (cs:=[Q3,Q3,N false]) jd Z a) Z fun aS w a=>bm (bp (i:=0) (us:=[aF,aG,N ah.2.2.1]) Z cE Z Z Z ⟨(a.ro 1 Z).one,(a.ro 2 Z).one,Z,K⟩ Z a) fun w a=>V 1 Z<|gl1 ?_
  refine al<|V 3 Z ?_
  cases y:(ah.2.2.2 == 0)
  case true=>
   have h:=bH h y
   try simp only[y]
   refine aO (t:=75) Z Z (ak (k:=2) u27 Z Z dU Z) Z<|aO (t:=75) Z Z (ar u25 Z Z (a.q 3 Z 2)) Z<|aO (t:=75) Z Z (ak (k:=3) u27 Z Z dU Z) Z<|aO (t:=75) Z Z (ar u25 Z Z (a.q 3 Z 3)) Z<|aO (t:=75) Z Z (ak (k:=4) u27 Z Z dU Z) Z<|aO (t:=75) Z Z (ar u25 Z Z (a.q 3 Z 4)) Z<|kq (t:=75) Z Z (bJ (e:=eV) (l:=([SV.of b,SV.of c,SV.of d]:List SV)) (vs:=[b,c,d]) u117 iy Z Z Z (cb (m.b a.fr).sv (cb (o.b a.fr).sv (cb (p.b a.fr).sv Z))) (by decide) (by decide) a) Z fun aT w a=>M h fun aV ao h=>bU (t:=75) Z Z (by kernel_rfl) Z (ij  ao (a.ro 0 Z).rp ⟨(m.b a.fr).svrp,(o.b a.fr).svrp,(p.b a.fr).svrp,K⟩) Z ?_
   rintro _ w ⟨rfl,u⟩
   have a:=a.e u
   refine V 2 Z<|Q<|aq<|bb<|aN ?_
   cases h
   exact au Z Z ⟨Z,a.d [] Z Z⟩
  case false=>
   have h:=bI h y
   try simp only[y]
   refine V 10 Z<|Q<|aq<|bb<|aN ?_
   cases h
   exact au Z Z ⟨Z,a.d [] Z Z⟩
 refine R<|V 2 Z<|Q ?_
 apply gl9 Z h<;>intro h
 ·refine az ?_
  refine aU (r:=r) (fun (g:Bool) L w=>L=[(1,P aA 0),(102,N g)]/\St [] B w [Y aA [H A,H n,b,c,d,j,f]]) (F.Lg T) ?_ ?_
  rotate_left
  ·intro ab
   refine al<|O (ak (k:=1) u27 Z Z qb Z) Z<|O (ar u24 Z Z (a.q 0 Z 1)) Z<|V 2 Z ?_
   cases z:(n != 3)
   case true=>
    have h:=bH h z
    try simp only[z]
    exact V 12 Z<|Q<|aB (ab true _ _ ⟨Z,a⟩ h) Z
   case false=>
    have h:=bI h z
    try simp only[z]
    refine aO (t:=90) Z Z (ak (k:=2) u27 Z Z dU Z) Z<|aO (t:=90) Z Z (ar u25 Z Z (a.q 0 Z 2)) Z<|aO (t:=90) Z Z (ak (k:=3) u27 Z Z dU Z) Z<|aO (t:=90) Z Z (ar u25 Z Z (a.q 0 Z 3)) Z<|aO (t:=90) Z Z (ak (k:=4) u27 Z Z dU Z) Z<|aO (t:=90) Z Z (ar u25 Z Z (a.q 0 Z 4)) Z<|aO (t:=90) Z Z (ak (k:=6) u27 Z Z dU Z) Z<|aO (t:=90) Z Z (ar u25 Z Z (a.q 0 Z 6)) Z<|kq (t:=90) Z Z (bJ (e:=eV) (l:=([SV.of b,SV.of c,SV.of d,SV.of f]:List SV)) (vs:=[b,c,d,f]) u117 iy Z Z Z (cb (m.b a.fr).sv (cb (o.b a.fr).sv (cb (p.b a.fr).sv (cb (q.b a.fr).sv Z)))) (by decide) (by decide) a) Z fun aW w a=>M h fun aI ap h=>bU (t:=90) Z Z (by kernel_rfl) Z (ij  ap (a.ro 0 Z).rp ⟨(m.b a.fr).svrp,(o.b a.fr).svrp,(p.b a.fr).svrp,(q.b a.fr).svrp,K⟩) Z ?_
    rintro _ w ⟨rfl,u⟩
    have a:=a.e u
    exact V 2 Z<|Q<|aB (ab (!aI) _ _ ⟨Z,(a.d [1] Z Z)⟩ h) Z
  rintro aX L w hJ h
  try dsimp only at hJ
  obtain⟨rfl,a⟩:=hJ
  unfold F.Lg at h
  apply gl9 Z h<;>intro h
  ·refine R<|V 1 Z<|gl8<|bb<|aN ?_
   cases h
   exact au Z Z ⟨Z,a.d [] Z Z⟩
  refine gl6<|O (ak (k:=5) u27 Z Z dU Z) Z<|O (ar u25 Z Z (a.q 0 Z 5)) Z<|M h fun aJ aw h=>bA a Z (pA  aw (hT.b a.fr) (s.b a.fr).rp) Z fun aK aL w a=>V 3 Z<|bl (bc (cs:=[Q3,Q3,N false]) jd Z a) Z fun aY w a=>bm (bp (i:=0) (us:=[aK,aL,N aJ.2.2.1]) Z cE Z Z Z ⟨(a.ro 1 Z).one,(a.ro 2 Z).one,Z,K⟩ Z a) fun w a=>V 1 Z<|gl1 ?_
  refine al<|V 3 Z<|Q<|aq<|bb<|aN ?_
  cases h
  exact au Z Z ⟨Z,a.d [] Z Z⟩
 refine cf<|aH<|am<|R<|V 1 Z<|Q<|aq ?_
 cases h
 exact au Z Z ⟨Z,a.d [] Z Z⟩
theorem vF {j:World} {k l m n o:Q1} {a b c d e:Value} (f g:Int) {r:Int}
  (h:F.Ih f g k l m n o=some r) (y:TB [] j) (p:RP [] j e8 a k) (q:RP [] j e8 b l) (s:RP [] j e8 c m) (t:RP [] j e8 d n) (u:RP [] j e8 e o):Calls Tryz.prog 14 #[.agg #[H f,H g,a,b,c,d,e]] j (Ret fun v w=>v=H r/\St [] j w []):=by
 refine ay 5 Tryz.func14 Z Z Z<|have i:=St.k j;ax [(0,.agg #[H f,H g,a,b,c,d,e])] Z ?_
 unfold F.Ih at h
 refine R<|bl (cy (cs:=[H f,H g,a,b,c,d,e]) Z Z i) Z fun z w i=>V 1 Z<|gl1<|R<|O (bO (us:=[H f,H g,a,b,c,d,e]) u27 Z kw Z (i.p 0 Z Z)) Z<|M h fun A x h=>aS i Z (ww f g x (y.b i.fr) (p.b i.fr).rp (q.b i.fr).rp (s.b i.fr).rp (t.b i.fr).rp (u.b i.fr).rp) Z fun w i=>Q ?_
 apply gl9 Z h<;>intro h
 ·refine R<|V 1 Z<|gl8 ?_
  cases h
  exact au Z Z ⟨Z,i.d [] Z Z⟩
 refine gl6<|V 1 Z<|Q<|aq ?_
 cases h
 exact au Z Z ⟨Z,i.d [] Z Z⟩
end Go.Proofs
