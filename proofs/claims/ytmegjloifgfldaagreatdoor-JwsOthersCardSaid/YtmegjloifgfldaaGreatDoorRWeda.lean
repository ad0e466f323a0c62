import Derived.Test.YtmegjloifgfldaaGreatDoorRW0
import Derived.Test.YtmegjloifgfldaaGreatDoorGkFb64
import Derived.Test.YtmegjloifgfldaaGreatDoorRWlib
import Derived.Test.YtmegjloifgfldaaGreatDoorRWmodn
import Derived.Test.YtmegjloifgfldaaGreatDoorRWnatb
set_option linter.unusedVariables false
set_option linter.unusedSimpArgs false
set_option linter.unusedSectionVars false
set_option maxRecDepth 4000
namespace Go.Proofs
open Go Go.RowKit Go.Gk
open Go.Gk renaming aa -> V, af -> M, ag -> O, ai -> J, e32 -> X, gl3 -> Q, gl4 -> R, own -> U, pB -> P, vB -> N, vI -> H
open Nat renaming le_of_ble_eq_true -> W
open Go.Gk.OE renaming bx -> Y
open Go.Gk.Rds renaming cons -> I
theorem lC {c:World} {a0:Q1} {b:Value} {r:Q0}
  (h:F.Ir a0=some r) (g:RP [] c e8 b a0):Calls Tryz.prog 44 #[b] c (Ret fun v w=>St [] c w [U X v r]):=by
 refine ay 10 Tryz.func44 Z Z Z<|have a:=St.k c;ax [(0,b)] Z ?_
 unfold F.Ir at h
 refine R<|V 1 Z<|gl2<|V 1 Z<|M h fun i d h=>aM a Z (j0  d (g.b a.fr).rp) Z fun j w a=>V 1 Z<|gl2<|V 1 Z<|have k:=a.pick (os':=[U e8 j i]++[]) [0] (by decide) Z;M h fun m e h=>aJ Z (gi  e k.f ) Z ?_
 rintro _ w ⟨rfl,l⟩
 have a:=k.g l
 refine gl2<|V 1 Z<|M h fun n f h=>aM a Z (ci  f (a.ro 0 Z).rp) Z fun o w a=>V 1 Z<|Q<|aq ?_
 cases h
 exact au Z Z (a.d [0] Z Z)
theorem gR {d:World} (a:Q0) {r:Q0}
  (h:F.HW a=some r) (c:a.length=8):Calls Tryz.prog 93 #[.agg (X.fl a).toArray] d (Ret fun v w=>St [] d w [U X v r]):=by
 refine ay 4 Tryz.func93 Z Z Z<|have b:=St.k d;ax [(0,.agg (X.fl a).toArray)] Z ?_
 unfold F.HW at h
 refine R<|bl (cy (cs:=X.fl a) Z Z b) Z fun e w b=>V 1 Z<|gl2<|O (F6 u150 dS Z) Z ?_
 replace b:=b.bxOwn (i:=0) rfl c rfl rfl
 refine V 1 Z<|Q<|aq ?_
 cases h
 exact au Z Z (b.d [0] Z Z)
theorem eG {a:World}  {r:Q0}
  (h:F.GV =some r) (d:TB [] a):Calls Tryz.prog 90 #[] a (Ret fun v w=>St [] a w [U X v r]):=by
 refine ay 3 Tryz.func90 Z Z Z<|have b:=St.k a;gj [] K ?_
 unfold F.GV at h
 refine R<|V 1 Z<|gl2<|O (ft (us:=X.fl F.G8) u150 Z iP (bk (show F.G8.length=8 from Z) Z) Z (d.ed_primeLimbs.cells b.fr)) Z<|M h fun e c h=>aM b Z (gR F.G8 c (show F.G8.length=8 from Z)) Z fun f w b=>V 1 Z<|Q<|aq ?_
 cases h
 exact au Z Z (b.d [0] Z Z)
theorem cg {b:World} {a0 a1:Q0} {c d:Value} {r:Q0}
  (h:F.Gz a0 a1=some r) (j:TB [] b) (g:RP [] b X c a0) (i:RP [] b X d a1):Calls Tryz.prog 99 #[c,d] b (Ret fun v w=>St [] b w [U X v r]):=by
 refine ay 15 Tryz.func99 Z Z Z<|have a:=St.k b;ax [(0,c),(1,d)] Z ?_
 unfold F.Gz at h
 refine R<|V 1 Z<|gl2<|V 2 Z<|M h fun k e h=>aM a Z (eG  e (j.b a.fr)) Z fun l w a=>M h fun m f h=>cU a Z (mA  f (g.b a.fr).rp (i.b a.fr).rp (a.ro 0 Z).rp) Z fun n w a=>V 5 Z<|gl2<|V 2 Z<|Q<|aq ?_
 cases h
 exact au Z Z (a.d [0] Z Z)
theorem fF {b:World} {a0 a1:Q0} {c d:Value} {r:Q0}
  (h:F.GR a0 a1=some r) (j:TB [] b) (g:RP [] b X c a0) (i:RP [] b X d a1):Calls Tryz.prog 47 #[c,d] b (Ret fun v w=>St [] b w [U X v r]):=by
 refine ay 15 Tryz.func47 Z Z Z<|have a:=St.k b;ax [(0,c),(1,d)] Z ?_
 unfold F.GR at h
 refine R<|V 1 Z<|gl2<|V 2 Z<|M h fun k e h=>aM a Z (eG  e (j.b a.fr)) Z fun l w a=>M h fun m f h=>cU a Z (yi  f (g.b a.fr).rp (i.b a.fr).rp (a.ro 0 Z).rp) Z fun n w a=>V 5 Z<|gl2<|V 2 Z<|Q<|aq ?_
 cases h
 exact au Z Z (a.d [0] Z Z)
theorem kh {a:World}  {r:Q0}
  (h:F.It =some r) (d:TB [] a):Calls Tryz.prog 102 #[] a (Ret fun v w=>St [] a w [U X v r]):=by
 refine ay 3 Tryz.func102 Z Z Z<|have b:=St.k a;gj [] K ?_
 unfold F.It at h
 refine R<|V 1 Z<|gl2<|O (ft (us:=X.fl F.G3) u150 Z iP (bk (show F.G3.length=8 from Z) Z) Z (d.ed_curveLimbs.cells b.fr)) Z<|M h fun e c h=>aM b Z (gR F.G3 c (show F.G3.length=8 from Z)) Z fun f w b=>V 1 Z<|Q<|aq ?_
 cases h
 exact au Z Z (b.d [0] Z Z)
theorem eg {b:World} {a0 a1:Q0} {c d:Value} {r:Q0}
  (h:F.GL a0 a1=some r) (j:TB [] b) (g:RP [] b X c a0) (i:RP [] b X d a1):Calls Tryz.prog 101 #[c,d] b (Ret fun v w=>St [] b w [U X v r]):=by
 refine ay 15 Tryz.func101 Z Z Z<|have a:=St.k b;ax [(0,c),(1,d)] Z ?_
 unfold F.GL at h
 refine R<|V 1 Z<|gl2<|V 2 Z<|M h fun k e h=>aM a Z (eG  e (j.b a.fr)) Z fun l w a=>M h fun m f h=>cU a Z (xX  f (g.b a.fr).rp (i.b a.fr).rp (a.ro 0 Z).rp) Z fun n w a=>V 5 Z<|gl2<|V 2 Z<|Q<|aq ?_
 cases h
 exact au Z Z (a.d [0] Z Z)
theorem nO {b:World} {a0:Q0} {c:Value} {r:Q0}
  (h:F.Ka a0=some r) (g:TB [] b) (f:RP [] b X c a0):Calls Tryz.prog 103 #[c] b (Ret fun v w=>St [] b w [U X v r]):=by
 refine ay 12 Tryz.func103 Z Z Z<|have a:=St.k b;ax [(0,c)] Z ?_
 unfold F.Ka at h
 refine R<|V 1 Z<|gl2<|V 1 Z<|M h fun i d h=>aM a Z (eG  d (g.b a.fr)) Z fun j w a=>M h fun k e h=>cU a Z (qo  e (f.b a.fr).rp (a.ro 0 Z).rp) Z fun l w a=>V 5 Z<|gl2<|V 2 Z<|Q<|aq ?_
 cases h
 exact au Z Z (a.d [0] Z Z)
theorem yY {b:World} {a0 a1:Q0} {c d:Value} {r:Q0}
  (h:F.LP a0 a1=some r) (j:TB [] b) (g:RP [] b X c a0) (i:RP [] b X d a1):Calls Tryz.prog 142 #[c,d] b (Ret fun v w=>St [] b w [U X v r]):=by
 refine ay 15 Tryz.func142 Z Z Z<|have a:=St.k b;ax [(0,c),(1,d)] Z ?_
 unfold F.LP at h
 refine R<|V 1 Z<|gl2<|V 2 Z<|M h fun k e h=>aM a Z (eG  e (j.b a.fr)) Z fun l w a=>M h fun m f h=>cU a Z (mp  f (g.b a.fr).rp (i.b a.fr).rp (a.ro 0 Z).rp) Z fun n w a=>V 5 Z<|gl2<|V 2 Z<|Q<|aq ?_
 cases h
 exact au Z Z (a.d [0] Z Z)
theorem zK {a:World}  {r:Q0}
  (h:F.Md =some r) (d:TB [] a):Calls Tryz.prog 144 #[] a (Ret fun v w=>St [] a w [U X v r]):=by
 refine ay 3 Tryz.func144 Z Z Z<|have b:=St.k a;gj [] K ?_
 unfold F.Md at h
 refine R<|V 1 Z<|gl2<|O (ft (us:=X.fl F.G6) u150 Z iP (bk (show F.G6.length=8 from Z) Z) Z (d.ed_rootLimbs.cells b.fr)) Z<|M h fun e c h=>aM b Z (gR F.G6 c (show F.G6.length=8 from Z)) Z fun f w b=>V 1 Z<|Q<|aq ?_
 cases h
 exact au Z Z (b.d [0] Z Z)
theorem tn {k:World} {a0:Q0} {q:Value} (a1:Bool) {r:Q0×Bool}
  (h:F.LA a0 a1=some r) (b:TB [] k) (ak:RP [] k X q a0):Calls Tryz.prog 91 #[q,N a1] k (Ret fun v w=>∃u0:Value,v=.tuple #[u0,N r.2]/\St [] k w [U X u0 r.1]):=by
 refine ay 58 Tryz.func91 Z Z Z<|have a:=St.k k;ax [(0,q),(1,N a1)] Z ?_
 unfold F.LA at h
 refine R<|V 2 Z<|gl2<|V 2 Z<|M h fun ba am h=>aM a Z (cg  am (b.b a.fr) (ak.b a.fr).rp (ak.b a.fr).rp) Z fun bb w a=>V 1 Z<|gl2<|V 1 Z<|bn (bJ (e:=X) (l:=([1]:Q0)) (vs:=[v32 1]) u58 aL Z Z Z Z (by decide) (by decide) a) Z fun bc w a=>M h fun bd an h=>aM a Z (fF  an (b.b a.fr) (a.ro 1 Z).rp (a.ro 0 Z).rp) Z fun be w a=>M h fun bf ao h=>aM a Z (kh  ao (b.b a.fr)) Z fun aG w a=>V 1 Z<|M h fun aH x h=>aM a Z (cg  x (b.b a.fr) (a.ro 0 Z).rp (a.ro 3 Z).rp) Z fun aI w a=>bn (bJ (e:=X) (l:=([1]:Q0)) (vs:=[v32 1]) u58 aL Z Z Z Z (by decide) (by decide) a) Z fun aJ w a=>M h fun aK y h=>aM a Z (eg  y (b.b a.fr) (a.ro 1 Z).rp (a.ro 0 Z).rp) Z fun aN w a=>M h fun aO z h=>aM a Z (nO  z (b.b a.fr) (a.ro 0 Z).rp) Z fun aP w a=>M h fun s A h=>aM a Z (cg  A (b.b a.fr) (a.ro 5 Z).rp (a.ro 0 Z).rp) Z fun u w a=>V 1 Z<|gl2<|V 1 Z<|M h fun aQ B h=>aM a Z (eG  B (b.b a.fr)) Z fun aR w a=>bn (bJ (e:=X) (l:=([3]:Q0)) (vs:=[v32 3]) u58 aL Z Z Z Z (by decide) (by decide) a) Z ?_
 rintro aT w a
 refine M h fun aV C h=>aM a Z (kZ  C (a.ro 1 Z).rp (a.ro 0 Z).rp) Z fun aW w a=>M h fun aX D h=>aM a Z (jD 3 D (a.ro 0 Z).rp) Z fun aY w a=>M h fun ap E h=>aM a Z (yY  E (b.b a.fr) (a.ro 4 Z).rp (a.ro 0 Z).rp) Z fun ar w a=>V 1 Z<|Q ?_
 refine aU (r:=r) (fun (g:Q0) L w=>∃(c:Value),L=[(1,N a1),(7,u),(8,c)]/\St [] k w [U X c g,U X u s]) (F.JU a1 s) ?_ ?_
 rotate_left
 ·intro o
  refine R<|V 2 Z<|M h fun aZ G h=>aM a Z (cg  G (b.b a.fr) (a.ro 0 Z).rp (a.ro 0 Z).rp) Z fun a2 w a=>V 1 Z<|M h fun a3 S h=>aS a Z (du  S (a.ro 0 Z).rp (a.ro 6 Z).rp) Z fun w a=>V 1 Z<|Q ?_
  apply gl9 Z h<;>intro h
  ·exact al<|V 1 Z<|M h fun a4 T h=>aM a Z (zK  T (b.b a.fr)) Z fun a5 w a=>M h fun au ab h=>aM a Z (cg  ab (b.b a.fr) (a.ro 2 Z).rp (a.ro 0 Z).rp) Z fun av w a=>V 1 Z<|Q<|aB (o au _ _ ⟨av,Z,(a.d [0,8] Z Z)⟩ h) Z
  exact gl5<|aB (o ap _ _ ⟨ar,Z,(a.d [1,6] Z Z)⟩ h) Z
 rintro n L w m h
 try dsimp only at m
 obtain⟨c,rfl,a⟩:=m
 unfold F.JU at h
 refine az ?_
 refine aU (r:=r) (fun (g:Bool) L w=>L=[(1,N a1),(8,c),(50,N g)]/\St [] k w [U X c n]) (F.Ig a1 n) ?_ ?_
 rotate_left
 ·intro i
  refine al<|V 2 Z<|M h fun a6 ac h=>aM a Z (cg  ac (b.b a.fr) (a.ro 0 Z).rp (a.ro 0 Z).rp) Z fun a7 w a=>V 1 Z<|M h fun aw ad h=>aS a Z (du  ad (a.ro 0 Z).rp (a.ro 2 Z).rp) Z fun w a=>V 2 Z ?_
  cases d:(aw != 0)
  case true=>
   have h:=bH h d
   try simp only[d]
   exact V 7 Z<|Q<|aB (i true _ _ ⟨Z,(a.d [1] Z Z)⟩ h) Z
  case false=>
   have h:=bI h d
   try simp only[d]
   refine V 1 Z<|M h fun aA ae h=>bU (t:=43) Z Z (by kernel_rfl) Z (dM  ae (a.ro 1 Z).rp) Z ?_
   rintro _ w ⟨rfl,aF⟩
   have a:=a.e aF
   refine V 2 Z ?_
   cases f:(aA == 0)
   case true=>
    have h:=bH h f
    try simp only[f]
    exact V 3 Z<|Q<|aB (i a1 _ _ ⟨Z,(a.d [1] Z Z)⟩ h) Z
   case false=>
    have h:=bI h f
    try simp only[f]
    exact V 3 Z<|Q<|aB (i false _ _ ⟨Z,(a.d [1] Z Z)⟩ h) Z
 rintro a8 L w m h
 try dsimp only at m
 obtain⟨rfl,a⟩:=m
 unfold F.Ig at h
 apply gl9 Z h<;>intro h
 ·refine R<|V 2 Z<|gl8 ?_
  cases h
  exact bE Z Z Z ⟨Q3,Z,(a.nil X).d [0] Z Z⟩
 refine gl5 ?_
 refine aU (r:=r) (fun (g:Q0) L w=>∃(j:Value),L=[(8,j)]/\St [] k w [U X j g]) (F.Mg) ?_ ?_
 rotate_left
 ·intro p
  refine R<|V 1 Z<|M h fun aC ah h=>aS a Z (fZ 0 ah (a.ro 0 Z).rp) Z fun w a=>V 1 Z<|O (aj Z Z (mm _ aC a1 u4 Z)) Z<|Q ?_
  apply gl9 Z h<;>intro h
  ·exact al<|V 1 Z<|M h fun aD J h=>aM a Z (fF  J (b.b a.fr) (RO.nil _ X).rp (a.ro 0 Z).rp) Z fun aE w a=>V 1 Z<|Q<|aB (p aD _ _ ⟨aE,Z,(a.d [0] Z Z)⟩ h) Z
  exact gl5<|aB (p n _ _ ⟨c,Z,a⟩ h) Z
 rintro a9 L w m h
 try dsimp only at m
 obtain⟨j,rfl,a⟩:=m
 unfold F.Mg at h
 refine R<|V 3 Z<|Q<|aq ?_
 cases h
 exact bE Z Z Z ⟨j,Z,a.d [0] Z Z⟩
theorem pA {d:World} {a0:Q1} {e:Value} {r:Q0×Q0×Bool×Int}
  (h:F.Kg a0=some r) (z:TB [] d) (s:RP [] d e8 e a0):Calls Tryz.prog 43 #[e] d (Ret fun v w=>∃f g:Value,v=.tuple #[.agg #[f,g,N r.2.2.1],H r.2.2.2]/\St [] d w [U X f r.1,U X g r.2.1]):=by
 refine ay 44 Tryz.func43 Z Z Z<|have a:=St.k d;ax [(0,e)] Z ?_
 unfold F.Kg at h
 refine R<|bl (bc (cs:=[Q3,Q3,N false]) jd Z a) Z fun G w a=>V 1 Z<|gl1<|R<|V 1 Z<|O (aD u25 Z (s.b a.fr)) Z<|V 1 Z<|Q ?_
 apply gl9 Z h<;>intro h
 ·refine R<|O (bR (vs:=[]) (cells:=[Q3,Q3,N false]) Z fL K Z) Z<|bm (bp (i:=0) (us:=[Q3,Q3,N false]) Z cE Z Z Z ⟨Z,Z,Z,K⟩ Z a) fun w a=>V 1 Z<|gl8 ?_
  cases h
  exact ff Z ⟨_,Z,bP (us:=[Q3,Q3,N false]) u71 Z cE (a.p 0 Z Z)⟩ Z ⟨Q3,Q3,Z,((a.nil X).nil X).d [1,0] Z Z⟩
 refine gl6<|V 1 Z<|M h fun L x h=>aM a Z (j0  x (s.b a.fr).rp) Z fun S w a=>V 1 Z<|gl2<|V 1 Z<|M h fun j k h=>O (bh u25 ti5 Z Z (a.ro 0 Z) k) Z<|O (aX Tryz.underlying5 Z Z (a.ro 0 Z) k Z) Z<|O (aj Z Z (me _ j 128)) Z<|O (aj Z Z (qe _ (j &&& 128) 0)) Z<|V 1 Z<|gl2<|V 1 Z<|M h fun u l h=>O (bh u25 ti5 Z Z (a.ro 0 Z) l) Z<|O (aX Tryz.underlying5 Z Z (a.ro 0 Z) l Z) Z<|O (aj Z Z (me _ u 127)) Z<|M h fun T m h=>O (bh u25 ti5 Z Z (a.ro 0 Z) m) Z<|bm (bX (t:=(u &&& 127)) ti5 Z Z a (i:=0) Z m Z) fun w a=>bg h fun ab y h=>?_
 rw[y]at a
 refine gl2<|V 1 Z<|M h fun A n h=>aM a Z (lC  n (a.ro 0 Z).rp) Z fun b w a=>V 1 Z<|gl1<|R<|V 1 Z<|M h fun B o h=>aM a Z (eG  o (z.b a.fr)) Z fun C w a=>M h fun D p h=>aS a Z (du  p (a.ro 1 Z).rp (a.ro 0 Z).rp) Z fun w a=>V 1 Z<|Q ?_
 apply gl9 Z h<;>intro h
 ·refine R<|O (bR (vs:=[]) (cells:=[Q3,Q3,N false]) Z fL K Z) Z<|bm (bp (i:=3) (us:=[Q3,Q3,N false]) Z cE Z Z Z ⟨Z,Z,Z,K⟩ Z a) fun w a=>V 1 Z<|gl8 ?_
  cases h
  exact ff Z ⟨_,Z,bP (us:=[Q3,Q3,N false]) u71 Z cE (a.p 3 Z Z)⟩ Z ⟨Q3,Q3,Z,((a.nil X).nil X).d [1,0] Z Z⟩
 refine gl6<|V 2 Z<|M h fun E q h=>cU a Z (tn ((j &&& 128) != 0) q (z.b a.fr) (a.ro 1 Z).rp) Z fun c w a=>V 5 Z<|gl1<|R<|V 2 Z<|Q ?_
 apply gl9 Z h<;>intro h
 ·refine R<|O (bR (vs:=[]) (cells:=[Q3,Q3,N false]) Z fL K Z) Z<|bm (bp (i:=4) (us:=[Q3,Q3,N false]) Z cE Z Z Z ⟨Z,Z,Z,K⟩ Z a) fun w a=>V 1 Z<|gl8 ?_
  cases h
  exact ff Z ⟨_,Z,bP (us:=[Q3,Q3,N false]) u71 Z cE (a.p 4 Z Z)⟩ Z ⟨Q3,Q3,Z,((a.nil X).nil X).d [1,0] Z Z⟩
 refine gl6<|V 2 Z<|O (bR (vs:=[(0,c,[c]),(1,b,[b])]) (cells:=[c,b,N false]) Z fL ⟨(bQ (a.ro 0 Z).one),(bQ (a.ro 2 Z).one),K⟩ Z) Z<|bm (bp (i:=4) (us:=[c,b,N false]) Z cE Z Z Z ⟨(a.ro 0 Z).one,(a.ro 2 Z).one,Z,K⟩ Z a) fun w a=>V 1 Z<|Q<|aq ?_
 cases h
 exact ff Z ⟨_,Z,bP (us:=[c,b,N false]) u71 Z cE (a.p 4 Z Z)⟩ Z ⟨c,b,Z,a.d [0,2] Z Z⟩
theorem qi {a:World}  {r:Q0}
  (h:F.K0 =some r) (d:TB [] a):Calls Tryz.prog 45 #[] a (Ret fun v w=>St [] a w [U X v r]):=by
 refine ay 3 Tryz.func45 Z Z Z<|have b:=St.k a;gj [] K ?_
 unfold F.K0 at h
 refine R<|V 1 Z<|gl2<|O (ft (us:=X.fl F.G9) u150 Z iP (bk (show F.G9.length=8 from Z) Z) Z (d.ed_orderLimbs.cells b.fr)) Z<|M h fun e c h=>aM b Z (gR F.G9 c (show F.G9.length=8 from Z)) Z fun f w b=>V 1 Z<|Q<|aq ?_
 cases h
 exact au Z Z (b.d [0] Z Z)
theorem AD {e:World}  {r:Q0×Q0×Bool}
  (h:F.L8 =some r) (p:TB [] e):Calls Tryz.prog 49 #[] e (Ret fun v w=>∃f g:Value,v=.agg #[f,g,N r.2.2]/\St [] e w [U X f r.1,U X g r.2.1]):=by
 refine ay 8 Tryz.func49 Z Z Z<|have a:=St.k e;gj [] K ?_
 unfold F.L8 at h
 refine R<|bl (bc (cs:=[Q3,Q3,N false]) jd Z a) Z fun q w a=>gl1<|dy (fun w'=>St [] e w' [Y q [Q3,Q3,N false]]) (fun i=>!([2,5,7].contains i)) bK (fun _ _ _ l=>l.2) (fun _ _ l=>l) (by kernel_rfl)<|have a:=a.drew;show lxE _ _ _ _ _ _ _ [0,1,2,3,4,5,6,7] _ _ from J a Z Z (fun w d=>gH Tryz.underlying157 iP Z Z (by decide) (by decide)) Z<|J a Z Z (fun w d=>ft (us:=X.fl F.G5) u150 Z iP (bk (show F.G5.length=8 from Z) Z) Z (p.ed_baseLimbs.part d.fr (l1:=F.G5) Z)) Z<|M h fun s m h=>aY a Z Z (by kernel_rfl) Z (gR F.G5 m (show F.G5.length=8 from Z)) Z fun b w j=>have a:=a.e j;have n:=(a.ro 0 Z).one;J (a.d [1] Z Z) Z Z (fun w d=>gH Tryz.underlying157 iP Z Z (by decide) (by decide)) Z<|J (a.d [1] Z Z) Z Z (fun w d=>ft (us:=X.fl F.G1) u150 Z iP (bk (show F.G1.length=8 from Z) Z) Z (p.ed_baseLimbs.part d.fr (l1:=F.G1) Z)) Z<|M h fun t o h=>aY (a.d [1] Z Z) Z Z (by kernel_rfl) Z (gR F.G1 o (show F.G1.length=8 from Z)) Z fun c w j=>have a:=a.e j;have k:=(a.ro 0 Z).one;J (a.d [2] Z Z) Z Z (fun w d=>bR (vs:=[(0,b,[b]),(1,c,[c])]) (cells:=[b,c,N false]) Z fL ⟨(bQ n),(bQ k),K⟩ Z) Z ?_
 refine gu (a.d [2] Z Z) Z Z (bp (i:=2) (us:=[b,c,N false]) Z cE Z Z Z ⟨(a.ro 1 Z).one,(a.ro 0 Z).one,Z,K⟩ Z a) fun w a=>a8 K<|am<|aq ?_
 cases h
 exact eu Z ⟨_,Z,bP (us:=[b,c,N false]) u71 Z cE (a.p 2 Z Z)⟩ ⟨b,c,Z,a.d [1,0] Z Z⟩
theorem sC {a:World} {a0:Q0} {b:Value} {r:Q0}
  (h:F.JV a0=some r) (f:TB [] a) (e:RP [] a X b a0):Calls Tryz.prog 98 #[b] a (Ret fun v w=>St [] a w [U X v r]):=by
 refine ay 5 Tryz.func98 Z Z Z<|have c:=St.k a;ax [(0,b)] Z ?_
 unfold F.JV at h
 refine R<|V 1 Z<|gl2<|V 1 Z<|M h fun g d h=>aM c Z (eg  d (f.b c.fr) (e.b c.fr).rp (RO.nil _ X).rp) Z fun i w c=>V 1 Z<|Q<|aq ?_
 cases h
 exact au Z Z (c.d [0] Z Z)
theorem pg {C:World} {A B:Q0} {n o:Value} (z:Bool) {r:Q0×Q0×Q0×Q0}
  (h:F.Ku A B z=some r) (hT:TB [] C) (O:RP [] C X n A) (ah:RP [] C X o B):Calls Tryz.prog 48 #[.agg #[n,o,N z]] C (Ret fun v w=>∃T V ab ac:Value,v=.agg #[T,V,ab,ac]/\St [] C w [U X T r.1,U X V r.2.1,U X ab r.2.2.1,U X ac r.2.2.2]):=by
 refine ay 16 Tryz.func48 Z Z Z<|have f:=St.k C;have p:=Fz.k (S:=[]) (w0:=C);?_
 have hTT:TOk [] [] C:=TOk.nil
 have s:Rds [] C [red X o B,red X n A]:=I (RP.h (W Z) ah) (I (RP.h (W Z) O) (Rds.nil))
 have u:Off [] [red X o B,red X n A]:=Off.emp
 refine ax [(0,.agg #[n,o,N z])] Z ?_
 unfold F.Ku at h
 refine R<|bl (cy (cs:=[n,o,N z]) rfl rfl f) rfl fun aj w f=>bl (bc (cs:=[Q3,Q3,Q3,Q3]) wg rfl f) rfl fun D w f=>gl1<|M h fun j an h=>M h fun m ao h=>M h fun g J h=>gm (es:=[red X o B,red X n A]) (os:=[Y aj [n,o,N z]]) (fun i=>[2,5,6,11,12,13].contains i) (fun i=>if i=2 then some 12 else if i=5 then some 12 else if i=6 then some 12 else if i=11 then some 12 else if i=12 then some 13 else none) (fun i=>[]) (fun i=>if i=13 then [Y D [Q3,Q3,Q3,Q3]] else []) (fun i=>[]) (fun i=>if i=12 then [2,5,6,11] else if i=13 then [2,5,6,11] else []) (fun i=>if i=2 then (fun h v x y=>∃c:Value,v=c/\x=[U X c j]/\y=[]) else if i=5 then (fun h v x y=>∃d:Value,v=d/\x=[U X d m]/\y=[]) else if i=6 then (fun h v x y=>∃a:Value,v=a/\x=[U X a ([1]:Q0)]/\y=[]) else if i=11 then (fun h v x y=>∃b:Value,v=b/\x=[U X b g]/\y=[]) else if i=12 then (fun h v x y=>∃c:Value,∃d:Value,∃a:Value,∃b:Value,h=[(c,[U X c j],[]),(d,[U X d m],[]),(a,[U X a ([1]:Q0)],[]),(b,[U X b g],[])]/\v=.agg #[c,d,a,b]/\x=[U X c j,U X d m,U X a ([1]:Q0),U X b g]/\y=[]) else (fun h v x y=>∃c:Value,∃d:Value,∃a:Value,∃b:Value,h=[(c,[U X c j],[]),(d,[U X d m],[]),(a,[U X a ([1]:Q0)],[]),(b,[U X b g],[])]/\v=undef/\x=[U X c j,U X d m,U X a ([1]:Q0),U X b g,Y D [c,d,a,b]]/\y=[])) (SfT.mk' p s u (f.pick (os':=[Y D [Q3,Q3,Q3,Q3],Y aj [n,o,N z]]) [0,1] (by decide) rfl)) (fun k hk=>(if_neg (fun q=>by subst q; exact absurd hk (by decide)))) hTT rfl (fun i=>(dl (by rintro h v x y ⟨_,rfl,rfl,rfl⟩; exact cx rfl) (dl (by rintro h v x y ⟨_,rfl,rfl,rfl⟩; exact cx rfl) (dl (by rintro h v x y ⟨_,rfl,rfl,rfl⟩; exact cx rfl) (dl (by rintro h v x y ⟨_,rfl,rfl,rfl⟩; exact cx rfl) (dl (by rintro h v x y ⟨_,_,_,_,_,rfl,rfl,rfl⟩; exact cx rfl) (by rintro h v x y ⟨_,_,_,_,_,rfl,rfl,rfl⟩; exact cx rfl))))))) bK (by kernel_rfl) (by kernel_rfl) ?_
 show fj _ _ _ _ _ _ _ _ _ _ _ _ _ _ _ _ [0,1,2,3,4,5,6,7,8,9,10,11,12,13] _ _
 refine cG Z Z (fun w G L p s u t=>ak (k:=0) u71 Z Z cO Z) Z<|cG Z Z (fun w G L p s u t=>ar u58 Z Z (t.q 0 Z 0)) Z ?_
 refine et (fun h v x y=>∃c:Value,v=c/\x=[U X c j]/\y=[]) [] [] [] _ Z Z (fun h v x y=>Z) Z Z Z Z ⟨_,_,_,undef,Z,Z,Z⟩ (by kernel_rfl) Z (fun w Sl Tl t p hTT s u f=>?_) Z ?_
 ·refine cR (sC  an (hT.b t) ((s.rp 0 Z).b f.fr).rp) ?_
  rintro c w E
  have f:=f.e E
  exact⟨_,_,⟨c,Z,Z,Z⟩,SfT.mk' p Rds.nil Off.nil f⟩
 rintro c x_q y_q ⟨_,rfl,rfl,rfl⟩
 refine cG Z Z (fun w G L p s u t=>ak (k:=1) u71 Z Z cO Z) Z<|cG Z Z (fun w G L p s u t=>ar u58 Z Z (t.q 0 Z 1)) Z ?_
 refine et (fun h v x y=>∃d:Value,v=d/\x=[U X d m]/\y=[]) [] [] [] _ Z Z (fun h v x y=>Z) Z Z Z Z ⟨_,_,_,undef,Z,Z,Z⟩ (by kernel_rfl) Z (fun w Sl Tl t p hTT s u f=>?_) Z ?_
 ·refine cR (sC  ao (hT.b t) ((s.rp 1 Z).b f.fr).rp) ?_
  rintro d w E
  have f:=f.e E
  exact⟨_,_,⟨d,Z,Z,Z⟩,SfT.mk' p Rds.nil Off.nil f⟩
 rintro d x_q y_q ⟨_,rfl,rfl,rfl⟩
 refine gD (fun h v x y=>∃a:Value,v=a/\x=[U X a ([1]:Q0)]/\y=[]) [] [] [] _ Z Z (fun h v x y=>Z) Z Z Z Z ⟨_,_,_,undef,Z,Z,Z⟩ (fun w Sl Tl p hTT s u f=>?_) Z ?_
 ·refine lS (bJ (e:=X) (l:=([1]:Q0)) (vs:=[v32 1]) u58 aL Z Z Z Z (by decide) (by decide) f) ?_
  rintro a w f
  exact⟨_,_,⟨a,Z,Z,Z⟩,SfT.mk' p Rds.nil Off.nil f⟩
 rintro a x_q y_q ⟨_,rfl,rfl,rfl⟩
 refine cG Z Z (fun w G L p s u t=>ak (k:=0) u71 Z Z cO Z) Z<|cG Z Z (fun w G L p s u t=>ar u58 Z Z (t.q 0 Z 0)) Z<|cG Z Z (fun w G L p s u t=>ak (k:=1) u71 Z Z cO Z) Z<|cG Z Z (fun w G L p s u t=>ar u58 Z Z (t.q 0 Z 1)) Z ?_
 refine et (fun h v x y=>∃b:Value,v=b/\x=[U X b g]/\y=[]) [] [] [] _ Z Z (fun h v x y=>Z) Z Z Z Z ⟨_,_,_,undef,Z,Z,Z⟩ (by kernel_rfl) Z (fun w Sl Tl t p hTT s u f=>?_) Z ?_
 ·refine cR (cg  J (hT.b t) ((s.rp 0 Z).b f.fr).rp ((s.rp 1 Z).b f.fr).rp) ?_
  rintro b w E
  have f:=f.e E
  exact⟨_,_,⟨b,Z,Z,Z⟩,SfT.mk' p Rds.nil Off.nil f⟩
 rintro b x_q y_q ⟨_,rfl,rfl,rfl⟩
 refine gD (fun h v x y=>∃c:Value,∃d:Value,∃a:Value,∃b:Value,h=[(c,[U X c j],[]),(d,[U X d m],[]),(a,[U X a ([1]:Q0)],[]),(b,[U X b g],[])]/\v=.agg #[c,d,a,b]/\x=[U X c j,U X d m,U X a ([1]:Q0),U X b g]/\y=[]) [(c,[U X c j],[]),(d,[U X d m],[]),(a,[U X a ([1]:Q0)],[]),(b,[U X b g],[])] [U X c j,U X d m,U X a ([1]:Q0),U X b g] [] _ Z Z (fun h v x y=>Z) Z Z Z Z ⟨_,_,_,c,d,a,b,Z,Z,Z,Z⟩ (fun w Sl Tl p hTT s u f=>?_) Z ?_
 ·exact yl (bR (vs:=[(0,c,[c]),(1,d,[d]),(2,a,[a]),(3,b,[b])]) (cells:=[c,d,a,b]) Z tC ⟨(bQ (f.ro 0 Z).one),(bQ (f.ro 1 Z).one),(bQ (f.ro 2 Z).one),(bQ (f.ro 3 Z).one),K⟩ Z) ⟨_,_,⟨c,d,a,b,Z,Z,Z,Z⟩,SfT.mk' p Rds.nil Off.nil f⟩
 rintro v_q x_q y_q ⟨v_6',v_9',v_11',v_14',hh,rfl,rfl,rfl⟩
 replace hh:([(c,[U X c j],[]),(d,[U X d m],[]),(a,[U X a ([1]:Q0)],[]),(b,[U X b g],[])]:List Th)=[(v_6',[U X v_6' j],[]),(v_9',[U X v_9' m],[]),(v_11',[U X v_11' ([1]:Q0)],[]),(v_14',[U X v_14' g],[])]:=hh
 cases hh
 refine nY (fun h v x y=>∃c:Value,∃d:Value,∃a:Value,∃b:Value,h=[(c,[U X c j],[]),(d,[U X d m],[]),(a,[U X a ([1]:Q0)],[]),(b,[U X b g],[])]/\v=undef/\x=[U X c j,U X d m,U X a ([1]:Q0),U X b g,Y D [c,d,a,b]]/\y=[]) [(c,[U X c j],[]),(d,[U X d m],[]),(a,[U X a ([1]:Q0)],[]),(b,[U X b g],[])] [U X c j,U X d m,U X a ([1]:Q0),U X b g,Y D [Q3,Q3,Q3,Q3]] [] _ Z Z (fun h v x y=>Z) Z Z Z Z ⟨_,_,_,c,d,a,b,Z,Z,Z,Z⟩ (fun w Sl Tl p hTT s u f=>?_) ?_
 ·refine mn (bp (i:=4) (us:=[c,d,a,b]) Z ir Z Z Z ⟨(f.ro 0 Z).one,(f.ro 1 Z).one,(f.ro 2 Z).one,(f.ro 3 Z).one,K⟩ Z f) ?_
  intro w f
  exact⟨_,_,⟨c,d,a,b,Z,Z,Z,Z⟩,SfT.mk' p Rds.nil Off.nil f⟩
 rintro v_q x_q y_q ⟨v_6',v_9',v_11',v_14',hh,rfl,rfl,rfl⟩
 replace hh:([(c,[U X c j],[]),(d,[U X d m],[]),(a,[U X a ([1]:Q0)],[]),(b,[U X b g],[])]:List Th)=[(v_6',[U X v_6' j],[]),(v_9',[U X v_9' m],[]),(v_11',[U X v_11' ([1]:Q0)],[]),(v_14',[U X v_14' g],[])]:=hh
 cases hh
 refine ji fun w hQ=>?_
 obtain⟨av,ap,p,s,u,f⟩:=hQ
 refine am<|aq ?_
 cases h
 replace f:=p.st f
 exact eu Z ⟨_,Z,bP (us:=[c,d,a,b]) u87 Z ir (f.p 4 Z Z)⟩ ⟨c,d,a,b,Z,f.d [0,1,2,3] Z Z⟩
theorem qy {p:World} {x y z A:Q0} {c d e f:Value} {r:Q0×Q0×Q0×Q0}
  (h:F.Lh x y z A=some r) (g:TB [] p) (q:RP [] p X c x) (s:RP [] p X d y) (t:RP [] p X e z) (aE:RP [] p X f A):Calls Tryz.prog 100 #[.agg #[c,d,e,f]] p (Ret fun v w=>∃B C D E:Value,v=.agg #[B,C,D,E]/\St [] p w [U X B r.1,U X C r.2.1,U X D r.2.2.1,U X E r.2.2.2]):=by
 refine ay 61 Tryz.func100 Z Z Z<|have a:=St.k p;ax [(0,.agg #[c,d,e,f])] Z ?_
 unfold F.Lh at h
 refine R<|bl (cy (cs:=[c,d,e,f]) Z Z a) Z fun ap w a=>bl (bc (cs:=[Q3,Q3,Q3,Q3]) wg Z a) Z fun au w a=>gl1<|aQ (fun w'=>St [] p w' [Y au [Q3,Q3,Q3,Q3],Y ap [c,d,e,f]]) (fun i=>!([4,9].contains i)) bK (fun _ _ _ u=>u.2) (fun _ _ u=>u) (by kernel_rfl)<|have a:=a.drew;show lxE _ _ _ _ _ _ _ [0,1,2,3,4,5,6,7,8,9,10,11] _ _ from J a Z Z (fun w b=>ak (k:=0) u87 Z Z cO Z) Z<|J a Z Z (fun w b=>ar u58 Z Z (b.q 1 Z 0)) Z<|J a Z Z (fun w b=>ak (k:=0) u87 Z Z cO Z) Z<|J a Z Z (fun w b=>ar u58 Z Z (b.q 1 Z 0)) Z<|M h fun aA av h=>aY a Z Z (by kernel_rfl) Z (cg  av (g.b a.fr) (q.b a.fr).rp (q.b a.fr).rp) Z fun aB w o=>have a:=a.e o;J (a.d [1,2] Z Z) Z Z (fun w b=>ak (k:=1) u87 Z Z cO Z) Z<|J (a.d [1,2] Z Z) Z Z (fun w b=>ar u58 Z Z (b.q 1 Z 1)) Z<|J (a.d [1,2] Z Z) Z Z (fun w b=>ak (k:=1) u87 Z Z cO Z) Z<|J (a.d [1,2] Z Z) Z Z (fun w b=>ar u58 Z Z (b.q 1 Z 1)) Z<|M h fun aC aw h=>aY (a.d [1,2] Z Z) Z Z (by kernel_rfl) Z (cg  aw (g.b a.fr) (s.b a.fr).rp (s.b a.fr).rp) Z ?_
 rintro aD w o
 have a:=a.e o
 refine an 2 Z (a.d [2,3] Z Z)<|a8 (a.d [2,3] Z Z)<|am<|az<|aQ (fun w'=>St [] p w' [U X aD aC,U X aB aA,Y au [Q3,Q3,Q3,Q3],Y ap [c,d,e,f]]) (fun i=>!([6,7].contains i)) bK (fun _ _ _ u=>u.2) (fun _ _ u=>u) (by kernel_rfl)<|have a:=a.drew;show lxE _ _ _ _ _ _ _ [0,1,2,3,4,5,6,7,8] _ _ from J a Z Z (fun w b=>ak (k:=2) u87 Z Z cO Z) Z<|J a Z Z (fun w b=>ar u58 Z Z (b.q 3 Z 2)) Z<|J a Z Z (fun w b=>ak (k:=2) u87 Z Z cO Z) Z<|J a Z Z (fun w b=>ar u58 Z Z (b.q 3 Z 2)) Z<|J a Z Z (fun w b=>ak (k:=2) u87 Z Z cO Z) Z<|J a Z Z (fun w b=>ar u58 Z Z (b.q 3 Z 2)) Z<|M h fun aF G h=>aY a Z Z (by kernel_rfl) Z (eg  G (g.b a.fr) (t.b a.fr).rp (t.b a.fr).rp) Z fun aG w o=>have a:=a.e o;M h fun aH L h=>aY (a.d [1,2,3,4] Z Z) Z Z (by kernel_rfl) Z (cg  L (g.b a.fr) (t.b a.fr).rp (a.ro 0 Z).rp) Z fun aI w o=>have a:=a.e o;an 1 Z (a.d [2,3,4,5] Z Z)<|a8 (a.d [2,3,4,5] Z Z)<|am<|R<|V 2 Z<|M h fun aJ S h=>aM a Z (eg  S (g.b a.fr) (a.ro 3 Z).rp (a.ro 2 Z).rp) Z ?_
 rintro aK w a
 refine V 1 Z<|gl2<|O (ak (k:=0) u87 Z Z cO Z) Z<|O (ar u58 Z Z (a.q 6 Z 0)) Z<|O (ak (k:=1) u87 Z Z cO Z) Z<|O (ar u58 Z Z (a.q 6 Z 1)) Z<|M h fun aL T h=>aM a Z (eg  T (g.b a.fr) (q.b a.fr).rp (s.b a.fr).rp) Z fun aN w a=>V 1 Z<|gl2<|V 3 Z<|M h fun aO ab h=>aM a Z (cg  ab (g.b a.fr) (a.ro 0 Z).rp (a.ro 0 Z).rp) Z fun aP w a=>M h fun aR ac h=>aM a Z (fF  ac (g.b a.fr) (a.ro 2 Z).rp (a.ro 0 Z).rp) Z fun aS w a=>V 1 Z<|gl2<|V 2 Z<|M h fun aT ad h=>aM a Z (fF  ad (g.b a.fr) (a.ro 7 Z).rp (a.ro 6 Z).rp) Z fun aU w a=>V 1 Z<|gl2<|V 2 Z<|M h fun aV ae h=>aM a Z (eg  ae (g.b a.fr) (a.ro 5 Z).rp (a.ro 0 Z).rp) Z fun aW w a=>V 1 Z<|gl2<|V 2 Z<|M h fun aX ah h=>aM a Z (cg  ah (g.b a.fr) (a.ro 2 Z).rp (a.ro 0 Z).rp) Z fun j w a=>V 2 Z<|M h fun aZ aj h=>aM a Z (cg  aj (g.b a.fr) (a.ro 2 Z).rp (a.ro 6 Z).rp) Z fun l w a=>V 2 Z<|M h fun a0 al h=>aM a Z (cg  al (g.b a.fr) (a.ro 2 Z).rp (a.ro 3 Z).rp) Z ?_
 rintro m w a
 refine V 2 Z<|M h fun a1 ao h=>aM a Z (cg  ao (g.b a.fr) (a.ro 5 Z).rp (a.ro 8 Z).rp) Z fun n w a=>O (bR (vs:=[(0,j,[j]),(1,l,[l]),(2,m,[m]),(3,n,[n])]) (cells:=[j,l,m,n]) Z tC ⟨(bQ (a.ro 3 Z).one),(bQ (a.ro 2 Z).one),(bQ (a.ro 1 Z).one),(bQ (a.ro 0 Z).one),K⟩ Z) Z<|bm (bp (i:=14) (us:=[j,l,m,n]) Z ir Z Z Z ⟨(a.ro 3 Z).one,(a.ro 2 Z).one,(a.ro 1 Z).one,(a.ro 0 Z).one,K⟩ Z a) fun w a=>Q<|aq ?_
 cases h
 exact eu Z ⟨_,Z,bP (us:=[j,l,m,n]) u87 Z ir (a.p 14 Z Z)⟩ ⟨j,l,m,n,Z,a.d [3,2,1,0] Z Z⟩
theorem lW {p:World} {D E G L S T ab ac:Q0} {e f g j l m n o:Value} {r:Q0×Q0×Q0×Q0}
  (h:F.J8 D E G L S T ab ac=some r) (d:TB [] p) (y:RP [] p X e D) (z:RP [] p X f E) (aB:RP [] p X g G) (aC:RP [] p X j L) (A:RP [] p X l S) (B:RP [] p X m T) (C:RP [] p X n ab) (aD:RP [] p X o ac):Calls Tryz.prog 51 #[.agg #[e,f,g,j],.agg #[l,m,n,o]] p (Ret fun v w=>∃ad ae ah aj:Value,v=.agg #[ad,ae,ah,aj]/\St [] p w [U X ad r.1,U X ae r.2.1,U X ah r.2.2.1,U X aj r.2.2.2]):=by
 refine ay 77 Tryz.func51 Z Z Z<|have a:=St.k p;ax [(0,.agg #[e,f,g,j]),(1,.agg #[l,m,n,o])] Z ?_
 unfold F.J8 at h
 refine R<|bl (cy (cs:=[e,f,g,j]) Z Z a) Z fun al w a=>bl (cy (cs:=[l,m,n,o]) Z Z a) Z fun ao w a=>bl (bc (cs:=[Q3,Q3,Q3,Q3]) wg Z a) Z fun ap w a=>gl1<|aQ (fun w'=>St [] p w' [Y ap [Q3,Q3,Q3,Q3],Y ao [l,m,n,o],Y al [e,f,g,j]]) (fun i=>!([4,9,10].contains i)) bK (fun _ _ _ x=>x.2) (fun _ _ x=>x) (by kernel_rfl)<|have a:=a.drew;show lxE _ _ _ _ _ _ _ [0,1,2,3,4,5,6,7,8,9,10,11] _ _ from J a Z Z (fun w b=>ak (k:=1) u87 Z Z cO Z) Z<|J a Z Z (fun w b=>ar u58 Z Z (b.q 2 Z 1)) Z<|J a Z Z (fun w b=>ak (k:=0) u87 Z Z cO Z) Z<|J a Z Z (fun w b=>ar u58 Z Z (b.q 2 Z 0)) Z<|M h fun a1 a3 h=>aY a Z Z (by kernel_rfl) Z (fF  a3 (d.b a.fr) (z.b a.fr).rp (y.b a.fr).rp) Z fun a2 w c=>have a:=a.e c;J (a.d [1,2,3] Z Z) Z Z (fun w b=>ak (k:=1) u87 Z Z cO Z) Z<|J (a.d [1,2,3] Z Z) Z Z (fun w b=>ar u58 Z Z (b.q 1 Z 1)) Z<|J (a.d [1,2,3] Z Z) Z Z (fun w b=>ak (k:=0) u87 Z Z cO Z) Z<|J (a.d [1,2,3] Z Z) Z Z (fun w b=>ar u58 Z Z (b.q 1 Z 0)) Z ?_
 refine M h fun au aE h=>aY (a.d [1,2,3] Z Z) Z Z (by kernel_rfl) Z (fF  aE (d.b a.fr) (B.b a.fr).rp (A.b a.fr).rp) Z fun av w c=>have a:=a.e c;M h fun aw aF h=>aY (a.d [2,3,4] Z Z) Z Z (by kernel_rfl) Z (cg  aF (d.b a.fr) (a.ro 1 Z).rp (a.ro 0 Z).rp) Z fun aA w c=>have a:=a.e c;an 1 Z (a.d [3,4,5] Z Z)<|a8 (a.d [3,4,5] Z Z)<|am<|az<|aQ (fun w'=>St [] p w' [U X aA aw,U X av au,U X a2 a1,Y ap [Q3,Q3,Q3,Q3],Y ao [l,m,n,o],Y al [e,f,g,j]]) (fun i=>!([4,9,10].contains i)) bK (fun _ _ _ x=>x.2) (fun _ _ x=>x) (by kernel_rfl)<|have a:=a.drew;show lxE _ _ _ _ _ _ _ [0,1,2,3,4,5,6,7,8,9,10,11] _ _ from J a Z Z (fun w b=>ak (k:=1) u87 Z Z cO Z) Z<|J a Z Z (fun w b=>ar u58 Z Z (b.q 5 Z 1)) Z<|J a Z Z (fun w b=>ak (k:=0) u87 Z Z cO Z) Z<|J a Z Z (fun w b=>ar u58 Z Z (b.q 5 Z 0)) Z<|M h fun a4 aG h=>aY a Z Z (by kernel_rfl) Z (eg  aG (d.b a.fr) (z.b a.fr).rp (y.b a.fr).rp) Z fun a5 w c=>have a:=a.e c;J (a.d [1,2,3,4,5,6] Z Z) Z Z (fun w b=>ak (k:=1) u87 Z Z cO Z) Z ?_
 refine J (a.d [1,2,3,4,5,6] Z Z) Z Z (fun w b=>ar u58 Z Z (b.q 4 Z 1)) Z<|J (a.d [1,2,3,4,5,6] Z Z) Z Z (fun w b=>ak (k:=0) u87 Z Z cO Z) Z<|J (a.d [1,2,3,4,5,6] Z Z) Z Z (fun w b=>ar u58 Z Z (b.q 4 Z 0)) Z<|M h fun a6 aH h=>aY (a.d [1,2,3,4,5,6] Z Z) Z Z (by kernel_rfl) Z (eg  aH (d.b a.fr) (B.b a.fr).rp (A.b a.fr).rp) Z fun a7 w c=>have a:=a.e c;M h fun a9 aI h=>aY (a.d [2,3,4,5,6,7] Z Z) Z Z (by kernel_rfl) Z (cg  aI (d.b a.fr) (a.ro 1 Z).rp (a.ro 0 Z).rp) Z fun ba w c=>have a:=a.e c;an 1 Z (a.d [3,4,5,6,7,8] Z Z)<|a8 (a.d [3,4,5,6,7,8] Z Z)<|am<|R<|O (ak (k:=3) u87 Z Z cO Z) Z<|O (ar u58 Z Z (a.q 8 Z 3)) Z<|O (ak (k:=3) u87 Z Z cO Z) Z<|O (ar u58 Z Z (a.q 7 Z 3)) Z<|M h fun bb aJ h=>aM a Z (cg  aJ (d.b a.fr) (aC.b a.fr).rp (aD.b a.fr).rp) Z fun bd w a=>M h fun be aK h=>aM a Z (kh  aK (d.b a.fr)) Z fun bf w a=>M h fun bg aL h=>aM a Z (kh  aL (d.b a.fr)) Z fun bh w a=>M h fun bi aN h=>aM a Z (eg  aN (d.b a.fr) (a.ro 1 Z).rp (a.ro 0 Z).rp) Z ?_
 rintro bj w a
 refine M h fun bk aO h=>aM a Z (cg  aO (d.b a.fr) (a.ro 3 Z).rp (a.ro 0 Z).rp) Z fun bn w a=>V 1 Z<|gl1<|aQ (fun w'=>St [] p w' [U X bn bk,U X bj bi,U X bh bg,U X bf be,U X bd bb,U X ba a9,U X a7 a6,U X a5 a4,U X aA aw,U X av au,U X a2 a1,Y ap [Q3,Q3,Q3,Q3],Y ao [l,m,n,o],Y al [e,f,g,j]]) (fun i=>!([6,7].contains i)) bK (fun _ _ _ x=>x.2) (fun _ _ x=>x) (by kernel_rfl)<|have a:=a.drew;show lxE _ _ _ _ _ _ _ [0,1,2,3,4,5,6,7,8] _ _ from J a Z Z (fun w b=>ak (k:=2) u87 Z Z cO Z) Z<|J a Z Z (fun w b=>ar u58 Z Z (b.q 13 Z 2)) Z<|J a Z Z (fun w b=>ak (k:=2) u87 Z Z cO Z) Z<|J a Z Z (fun w b=>ar u58 Z Z (b.q 12 Z 2)) Z<|J a Z Z (fun w b=>ak (k:=2) u87 Z Z cO Z) Z<|J a Z Z (fun w b=>ar u58 Z Z (b.q 12 Z 2)) Z<|M h fun bo aP h=>aY a Z Z (by kernel_rfl) Z (eg  aP (d.b a.fr) (C.b a.fr).rp (C.b a.fr).rp) Z fun bq w c=>have a:=a.e c;M h fun br aR h=>aY (a.d [1,2,3,4,5,6,7,8,9,10,11,12,13,14] Z Z) Z Z (by kernel_rfl) Z (cg  aR (d.b a.fr) (aB.b a.fr).rp (a.ro 0 Z).rp) Z ?_
 rintro bs w c
 have a:=a.e c
 refine an 1 Z (a.d [2,3,4,5,6,7,8,9,10,11,12,13,14,15] Z Z)<|a8 (a.d [2,3,4,5,6,7,8,9,10,11,12,13,14,15] Z Z)<|am<|R<|V 2 Z<|M h fun bt aS h=>aM a Z (fF  aS (d.b a.fr) (a.ro 7 Z).rp (a.ro 10 Z).rp) Z fun bu w a=>V 2 Z<|M h fun bv aT h=>aM a Z (fF  aT (d.b a.fr) (a.ro 1 Z).rp (a.ro 3 Z).rp) Z fun bw w a=>V 2 Z<|M h fun bz aU h=>aM a Z (eg  aU (d.b a.fr) (a.ro 2 Z).rp (a.ro 4 Z).rp) Z fun bA w a=>V 2 Z<|M h fun bB aV h=>aM a Z (eg  aV (d.b a.fr) (a.ro 10 Z).rp (a.ro 13 Z).rp) Z fun bC w a=>V 4 Z<|gl2<|V 2 Z<|M h fun bD aW h=>aM a Z (cg  aW (d.b a.fr) (a.ro 3 Z).rp (a.ro 2 Z).rp) Z fun q w a=>V 2 Z<|M h fun bE aX h=>aM a Z (cg  aX (d.b a.fr) (a.ro 2 Z).rp (a.ro 1 Z).rp) Z fun s w a=>V 2 Z<|M h fun bF aZ h=>aM a Z (cg  aZ (d.b a.fr) (a.ro 4 Z).rp (a.ro 3 Z).rp) Z fun t w a=>V 2 Z<|M h fun bG a0 h=>aM a Z (cg  a0 (d.b a.fr) (a.ro 6 Z).rp (a.ro 3 Z).rp) Z fun u w a=>O (bR (vs:=[(0,q,[q]),(1,s,[s]),(2,t,[t]),(3,u,[u])]) (cells:=[q,s,t,u]) Z tC ⟨(bQ (a.ro 3 Z).one),(bQ (a.ro 2 Z).one),(bQ (a.ro 1 Z).one),(bQ (a.ro 0 Z).one),K⟩ Z) Z ?_
 refine bm (bp (i:=21) (us:=[q,s,t,u]) Z ir Z Z Z ⟨(a.ro 3 Z).one,(a.ro 2 Z).one,(a.ro 1 Z).one,(a.ro 0 Z).one,K⟩ Z a) fun w a=>Q<|aq ?_
 cases h
 exact eu Z ⟨_,Z,bP (us:=[q,s,t,u]) u87 Z ir (a.p 21 Z Z)⟩ ⟨q,s,t,u,Z,a.d [3,2,1,0] Z Z⟩
theorem kW {o:World} {S T ab ac a1:Q0} {b c d f p:Value} {r:Q0×Q0×Q0×Q0}
  (h:F.J9 S T ab ac a1=some r) (hT:TB [] o) (aI:RP [] o X b S) (aK:RP [] o X c T) (aM:RP [] o X d ab) (aN:RP [] o X f ac) (aX:RP [] o X p a1):Calls Tryz.prog 50 #[.agg #[b,c,d,f],p] o (Ret fun v w=>∃an ao ap ar:Value,v=.agg #[an,ao,ap,ar]/\St [] o w [U X an r.1,U X ao r.2.1,U X ap r.2.2.1,U X ar r.2.2.2]):=by
 refine ay 26 Tryz.func50 Z Z Z<|have a:=St.k o;ax [(0,.agg #[b,c,d,f]),(1,p)] Z ?_
 unfold F.J9 at h
 refine R<|bl (cy (cs:=[b,c,d,f]) Z Z a) Z fun B w a=>bl (bc (cs:=[Q3,Q3,Q3,Q3]) wg Z a) Z fun C w a=>gl2<|bn (bJ (e:=X) (l:=([1]:Q0)) (vs:=[v32 1]) u58 aL Z Z Z Z (by decide) (by decide) a) Z fun D w a=>bn (bJ (e:=X) (l:=([1]:Q0)) (vs:=[v32 1]) u58 aL Z Z Z Z (by decide) (by decide) a) Z fun E w a=>O (bR (vs:=[(0,Q3,[Q3]),(1,D,[D]),(2,E,[E]),(3,Q3,[Q3])]) (cells:=[Q3,D,E,Q3]) Z tC ⟨Z,(bQ (a.ro 1 Z).one),(bQ (a.ro 0 Z).one),Z,K⟩ Z) Z<|bl (bc (cs:=[Q3,Q3,Q3,Q3]) wg Z a) Z fun G w a=>bm (bp (i:=0) (us:=[Q3,D,E,Q3]) Z ir Z Z Z ⟨Z,(a.ro 2 Z).one,(a.ro 1 Z).one,Z,K⟩ Z a) fun w a=>gl1<|az ?_
 refine al<|V 1 Z<|M h fun au aO h=>aS a Z (dM  aO (aX.b a.fr).rp) Z fun w a=>V 2 Z<|Q<|av<|ax [(1,p),(2,P B 0),(4,P C 0),(5,P G 0),(6,H (wI (au - 1)))] Z ?_
 refine bf (F.Jl S T ab ac a1) (fun (s:Int×Q0×Q0×Q0×Q0) L w=>∃(j:Value) (k:Value) (m:Value) (n:Value),L=[(1,p),(2,P B 0),(4,P C 0),(5,P G 0),(6,H s.1)]/\St [] o w [Y B [b,c,d,f],Y C [Q3,Q3,Q3,Q3],U X j s.2.1,U X k s.2.2.1,U X m s.2.2.2.1,U X n s.2.2.2.2,Y G [j,k,m,n]]) ?_ (wI (au - 1),[],([1]:Q0),([1]:Q0),[]) ⟨Q3,D,E,Q3,Z,(((a.nil X).nil X).d [6,5,1,4,3,0,2] Z Z)⟩ h
 rintro a9 ⟨q,ba,bb,bd,be⟩ L w aY hI aP h aj
 try dsimp only at hI
 obtain⟨j,k,m,n,rfl,a⟩:=hI
 unfold F.Jl at h
 refine az<|R<|V 2 Z<|Q ?_
 apply gl9 Z h<;>intro h
 ·refine gl5 ?_
  refine aU (r:=aY) (fun (g:Q0×Q0×Q0×Q0) L w=>∃(t:Value) (u:Value) (x:Value) (y:Value),L=[(1,p),(2,P B 0),(4,P C 0),(5,P G 0),(6,H q)]/\St [] o w [Y B [b,c,d,f],Y C [Q3,Q3,Q3,Q3],U X t g.1,U X u g.2.1,U X x g.2.2.1,U X y g.2.2.2,Y G [t,u,x,y]]) (F.Kb q) ?_ ?_
  rotate_left
  ·intro ak
   refine av<|R<|O (bO (us:=[j,k,m,n]) u87 Z ir Z (a.p 6 Z Z)) Z<|M h fun z aQ h=>aJ Z (qy  aQ (hT.b a.fr) (a.ro 2 Z).rp (a.ro 3 Z).rp (a.ro 4 Z).rp (a.ro 5 Z).rp) Z ?_
   rintro _ w ⟨ad,ae,ah,J,rfl,aw⟩
   have a:=a.e aw
   refine bm (bp (i:=10) (us:=[ad,ae,ah,J]) Z ir Z Z Z ⟨(a.ro 0 Z).one,(a.ro 1 Z).one,(a.ro 2 Z).one,(a.ro 3 Z).one,K⟩ Z a) fun w a=>gl1 ?_
   refine al<|V 2 Z<|M h fun bg aT h=>aS a Z (fZ q aT (aX.b a.fr).rp) Z fun w a=>Q ?_
   apply gl9 Z h<;>intro h
   ·refine al<|O (bO (us:=[ad,ae,ah,J]) u87 Z ir Z (a.p 10 Z Z)) Z<|O (bO (us:=[b,c,d,f]) u87 Z ir Z (a.p 4 Z Z)) Z<|M h fun A aV h=>aJ Z (lW  aV (hT.b a.fr) (a.ro 0 Z).rp (a.ro 1 Z).rp (a.ro 2 Z).rp (a.ro 3 Z).rp (aI.b a.fr).rp (aK.b a.fr).rp (aM.b a.fr).rp (aN.b a.fr).rp) Z ?_
    rintro _ w ⟨aC,aD,aE,aF,rfl,aw⟩
    have a:=a.e aw
    exact bm (bp (i:=14) (us:=[aC,aD,aE,aF]) Z ir Z Z Z ⟨(a.ro 0 Z).one,(a.ro 1 Z).one,(a.ro 2 Z).one,(a.ro 3 Z).one,K⟩ Z a) fun w a=>aG<|aH<|am<|aB (ak (A.1,A.2.1,A.2.2.1,A.2.2.2) _ _ ⟨aC,aD,aE,aF,Z,(a.d [8,9,0,1,2,3,14] Z Z)⟩ h) Z
   exact cf<|aH<|am<|aB (ak (z.1,z.2.1,z.2.2.1,z.2.2.2) _ _ ⟨ad,ae,ah,J,Z,(a.d [4,5,0,1,2,3,10] Z Z)⟩ h) Z
  rintro⟨a0,a2,a3,a4⟩ L w hJ h
  try dsimp only at hJ
  obtain⟨t,u,x,y,rfl,a⟩:=hJ
  unfold F.Kb at h
  exact al<|V 3 Z<|aG<|bo (br (aP (wI (q - 1),a0,a2,a3,a4) _ _ ⟨t,u,x,y,Z,a⟩ (aW h aj)) Z)
 refine aZ<|aA<|aA<|have h:=aR h aj;a7<|am<|R<|O (bO (us:=[j,k,m,n]) u87 Z ir Z (a.p 6 Z Z)) Z<|bm (bp (i:=1) (us:=[j,k,m,n]) Z ir Z Z Z ⟨(a.ro 2 Z).one,(a.ro 3 Z).one,(a.ro 4 Z).one,(a.ro 5 Z).one,K⟩ Z a) fun w a=>Q<|aq ?_
 cases h
 exact eu Z ⟨_,Z,bP (us:=[j,k,m,n]) u87 Z ir (a.p 1 Z Z)⟩ ⟨j,k,m,n,Z,a.d [2,3,4,5] Z Z⟩
theorem qq {j:World} {m n o p:Q0} {b c d e:Value} {r:Q0×Q0×Bool}
  (h:F.Lc m n o p=some r) (C:TB [] j) (u:RP [] j X b m) (x:RP [] j X c n) (y:RP [] j X d o) (ac:RP [] j X e p):Calls Tryz.prog 52 #[.agg #[b,c,d,e]] j (Ret fun v w=>∃q s:Value,v=.agg #[q,s,N r.2.2]/\St [] j w [U X q r.1,U X s r.2.1]):=by
 refine ay 16 Tryz.func52 Z Z Z<|have a:=St.k j;ax [(0,.agg #[b,c,d,e])] Z ?_
 unfold F.Lc at h
 refine R<|bl (cy (cs:=[b,c,d,e]) Z Z a) Z fun L w a=>bl (bc (cs:=[Q3,Q3,N false]) jd Z a) Z fun S w a=>gl2<|O (ak (k:=2) u87 Z Z cO Z) Z<|O (ar u58 Z Z (a.q 1 Z 2)) Z<|M h fun T D h=>aM a Z (nO  D (C.b a.fr) (y.b a.fr).rp) Z fun ab w a=>V 1 Z<|gl1<|dy (fun w'=>St [] j w' [U X ab T,Y S [Q3,Q3,N false],Y L [b,c,d,e]]) (fun i=>!([3,7,9].contains i)) bK (fun _ _ _ E=>E.2) (fun _ _ E=>E) (by kernel_rfl)<|have a:=a.drew;show lxE _ _ _ _ _ _ _ [0,1,2,3,4,5,6,7,8,9] _ _ from J a Z Z (fun w l=>ak (k:=0) u87 Z Z cO Z) Z<|J a Z Z (fun w l=>ar u58 Z Z (l.q 2 Z 0)) Z<|an 1 Z a<|M h fun ae G h=>aY a Z Z (by kernel_rfl) Z (cg  G (C.b a.fr) (u.b a.fr).rp (a.ro 0 Z).rp) Z fun g w t=>have a:=a.e t;have z:=(a.ro 0 Z).one;J (a.d [1,2,3] Z Z) Z Z (fun w l=>ak (k:=1) u87 Z Z cO Z) Z<|J (a.d [1,2,3] Z Z) Z Z (fun w l=>ar u58 Z Z (l.q 2 Z 1)) Z<|an 1 Z (a.d [1,2,3] Z Z)<|M h fun ad A h=>aY (a.d [1,2,3] Z Z) Z Z (by kernel_rfl) Z (cg  A (C.b a.fr) (x.b a.fr).rp (a.ro 1 Z).rp) Z ?_
 rintro f w t
 have a:=a.e t
 have B:=(a.ro 0 Z).one
 refine J (a.d [2,3,4] Z Z) Z Z (fun w l=>bR (vs:=[(0,g,[g]),(1,f,[f])]) (cells:=[g,f,N false]) Z fL ⟨(bQ z),(bQ B),K⟩ Z) Z<|gu (a.d [2,3,4] Z Z) Z Z (bp (i:=3) (us:=[g,f,N false]) Z cE Z Z Z ⟨(a.ro 1 Z).one,(a.ro 0 Z).one,Z,K⟩ Z a) fun w a=>a8 K<|am<|aq ?_
 cases h
 exact eu Z ⟨_,Z,bP (us:=[g,f,N false]) u71 Z cE (a.p 3 Z Z)⟩ ⟨g,f,Z,a.d [1,0] Z Z⟩
theorem Dq {n:World} {y z:Q0} {d f:Value} (m:Bool) {r:Bool}
  (h:F.Lj y z m=some r) (o:TB [] n) (p:RP [] n X d y) (q:RP [] n X f z):Calls Tryz.prog 104 #[.agg #[d,f,N m]] n (Ret fun v w=>v=N r/\St [] n w []):=by
 refine ay 43 Tryz.func104 Z Z Z<|have a:=St.k n;ax [(0,.agg #[d,f,N m])] Z ?_
 unfold F.Lj at h
 refine R<|bl (cy (cs:=[d,f,N m]) Z Z a) Z fun B w a=>V 1 Z<|gl1 ?_
 refine aU (r:=r) (fun (g:Bool×Bool) L w=>L=[(1,P B 0),(20,N g.1)]/\St [] n w [Y B [d,f,N g.2]]) (F.JS y z) ?_ ?_
 rotate_left
 ·intro s
  refine aQ (fun w'=>St [] n w' [Y B [d,f,N m]]) (fun i=>!([5,6,12,13].contains i)) bK (fun _ _ _ A=>A.2) (fun _ _ A=>A) (by kernel_rfl)<|have a:=a.drew;show lxE _ _ _ _ _ _ _ [0,1,2,3,4,5,6,7,8,9,10,11,12,13,14,15] _ _ from J a Z Z (fun w c=>ak (k:=2) u71 Z Z nz4 Z) Z<|J a Z Z (fun w c=>ar u4 Z Z (c.q 0 Z 2)) Z<|an 1 Z a ?_
  cases u:m
  case true=>
   replace h:=bH h u
   subst u
   exact a9 (b:=true) (t:=7) a Z Z Z Z Z Z<|a9 (b:=true) (t:=7) a Z Z Z Z Z Z<|en (b:=true) (t:=7) a Z Z Z Z Z Z<|en (b:=true) (t:=7) a Z Z Z Z Z Z<|a9 (b:=true) (t:=7) a Z Z Z Z Z Z<|an 2 Z a<|a9 (b:=true) (t:=14) a Z Z Z Z Z Z<|a9 (b:=true) (t:=14) a Z Z Z Z Z Z<|en (b:=true) (t:=14) a Z Z Z Z Z Z<|en (b:=true) (t:=14) a Z Z Z Z Z Z<|a9 (b:=true) (t:=14) a Z Z Z Z Z Z<|an 1 Z a<|a8 a<|am<|aB (s (true,true) _ _ ⟨Z,a⟩ h) Z
  case false=>
   replace h:=bI h u
   subst u
   refine bW (t:=7) a Z Z Z Z (fun w c=>ak (k:=0) u71 Z Z cO Z) Z<|bW (t:=7) a Z Z Z Z (fun w c=>ar u58 Z Z (c.q 0 Z 0)) Z<|M h fun aX ah h=>iJ (t:=7) a Z Z Z Z (by kernel_rfl) Z (eG  ah (o.b a.fr)) Z fun aZ w j=>have a:=a.e j;M h fun O al h=>iJ (t:=7) (a.d [1] Z Z) Z Z Z Z (by kernel_rfl) Z (du  al (p.b a.fr).rp (a.ro 0 Z).rp) Z ?_
   rintro _ w ⟨rfl,j⟩
   have a:=a.e j
   refine bW (t:=7) (a.d [1] Z Z) Z Z Z Z (fun w c=>aj Z Z (uY _ O 0)) Z<|an 2 Z (a.d [1] Z Z) ?_
   cases x:(decide ((0:Int)<=O))
   case true=>
    have h:=bH h x
    try simp only[x]
    exact a9 (b:=true) (t:=14) (a.d [1] Z Z) Z Z Z Z Z Z<|a9 (b:=true) (t:=14) (a.d [1] Z Z) Z Z Z Z Z Z<|en (b:=true) (t:=14) (a.d [1] Z Z) Z Z Z Z Z Z<|en (b:=true) (t:=14) (a.d [1] Z Z) Z Z Z Z Z Z<|a9 (b:=true) (t:=14) (a.d [1] Z Z) Z Z Z Z Z Z<|an 1 Z (a.d [1] Z Z)<|a8 (a.d [1] Z Z)<|am<|aB (s (true,false) _ _ ⟨Z,(a.d [1] Z Z)⟩ h) Z
   case false=>
    have h:=bI h x
    try simp only[x]
    refine bW (t:=14) (a.d [1] Z Z) Z Z Z Z (fun w c=>ak (k:=1) u71 Z Z cO Z) Z<|bW (t:=14) (a.d [1] Z Z) Z Z Z Z (fun w c=>ar u58 Z Z (c.q 0 Z 1)) Z<|M h fun a0 ao h=>iJ (t:=14) (a.d [1] Z Z) Z Z Z Z (by kernel_rfl) Z (eG  ao (o.b a.fr)) Z fun aw w j=>have a:=a.e j;M h fun C D h=>iJ (t:=14) (a.d [2] Z Z) Z Z Z Z (by kernel_rfl) Z (du  D (q.b a.fr).rp (a.ro 0 Z).rp) Z ?_
    rintro _ w ⟨rfl,j⟩
    have a:=a.e j
    exact bW (t:=14) (a.d [2] Z Z) Z Z Z Z (fun w c=>aj Z Z (uY _ C 0)) Z<|an 1 Z (a.d [2] Z Z)<|a8 (a.d [2] Z Z)<|am<|aB (s (decide ((0:Int)<=C),false) _ _ ⟨Z,(a.d [2] Z Z)⟩ h) Z
 rintro⟨aA,ap⟩ L w hJ h
 try dsimp only at hJ
 obtain⟨rfl,a⟩:=hJ
 unfold F.JS at h
 apply gl9 Z h<;>intro h
 ·refine R<|V 1 Z<|gl8 ?_
  cases h
  exact au Z Z ⟨Z,a.d [] Z Z⟩
 refine gl5<|az<|aQ (fun w'=>St [] n w' [Y B [d,f,N ap]]) (fun i=>!([4,9].contains i)) bK (fun _ _ _ A=>A.2) (fun _ _ A=>A) (by kernel_rfl)<|have a:=a.drew;show lxE _ _ _ _ _ _ _ [0,1,2,3,4,5,6,7,8,9,10,11] _ _ from J a Z Z (fun w c=>ak (k:=0) u71 Z Z cO Z) Z<|J a Z Z (fun w c=>ar u58 Z Z (c.q 0 Z 0)) Z<|J a Z Z (fun w c=>ak (k:=0) u71 Z Z cO Z) Z<|J a Z Z (fun w c=>ar u58 Z Z (c.q 0 Z 0)) Z<|M h fun aC E h=>aY a Z Z (by kernel_rfl) Z (cg  E (o.b a.fr) (p.b a.fr).rp (p.b a.fr).rp) Z fun aD w j=>have a:=a.e j;J (a.d [1] Z Z) Z Z (fun w c=>ak (k:=1) u71 Z Z cO Z) Z<|J (a.d [1] Z Z) Z Z (fun w c=>ar u58 Z Z (c.q 0 Z 1)) Z<|J (a.d [1] Z Z) Z Z (fun w c=>ak (k:=1) u71 Z Z cO Z) Z<|J (a.d [1] Z Z) Z Z (fun w c=>ar u58 Z Z (c.q 0 Z 1)) Z<|M h fun aE G h=>aY (a.d [1] Z Z) Z Z (by kernel_rfl) Z (cg  G (o.b a.fr) (q.b a.fr).rp (q.b a.fr).rp) Z fun aF w j=>have a:=a.e j;an 2 Z (a.d [2] Z Z)<|a8 (a.d [2] Z Z)<|am<|R<|V 2 Z<|M h fun aG S h=>aM a Z (fF  S (o.b a.fr) (a.ro 0 Z).rp (a.ro 1 Z).rp) Z ?_
 rintro aH w a
 refine bn (bJ (e:=X) (l:=([1]:Q0)) (vs:=[v32 1]) u58 aL Z Z Z Z (by decide) (by decide) a) Z fun aI w a=>M h fun aJ T h=>aM a Z (kh  T (o.b a.fr)) Z fun aK w a=>V 2 Z<|M h fun aN ab h=>aM a Z (cg  ab (o.b a.fr) (a.ro 4 Z).rp (a.ro 3 Z).rp) Z fun aO w a=>M h fun aP ac h=>aM a Z (cg  ac (o.b a.fr) (a.ro 1 Z).rp (a.ro 0 Z).rp) Z fun aR w a=>M h fun aT ad h=>aM a Z (eg  ad (o.b a.fr) (a.ro 3 Z).rp (a.ro 0 Z).rp) Z fun aV w a=>M h fun aW ae h=>aS a Z (du  ae (a.ro 5 Z).rp (a.ro 0 Z).rp) Z fun w a=>V 2 Z<|Q<|aq ?_
 cases h
 exact au Z Z ⟨Z,a.d [] Z Z⟩
theorem wN {e:World} {o p:Q0} {b c:Value} (d:Bool) {r:Q1×Int}
  (h:F.KL o p d=some r) (hT:TB [] e) (f:RP [] e X b o) (j:RP [] e X c p):Calls Tryz.prog 53 #[.agg #[b,c,N d]] e (Ret fun v w=>∃u0:Value,v=.tuple #[u0,H r.2]/\St [] e w [U e8 u0 r.1]):=by
 refine ay 26 Tryz.func53 Z Z Z<|have a:=St.k e;ax [(0,.agg #[b,c,N d])] Z ?_
 unfold F.KL at h
 refine R<|bl (cy (cs:=[b,c,N d]) Z Z a) Z fun C w a=>V 2 Z<|gl1<|R<|O (bO (us:=[b,c,N d]) u71 Z cE Z (a.p 0 Z Z)) Z<|M h fun ae x h=>aS a Z (Dq d x (hT.b a.fr) (f.b a.fr).rp (j.b a.fr).rp) Z fun w a=>V 1 Z<|Q ?_
 apply gl9 Z h<;>intro h
 ·refine R<|V 2 Z<|gl8 ?_
  cases h
  exact bE Z Z Z ⟨Q3,Z,(a.nil e8).d [0] Z Z⟩
 refine gl6<|O (ak (k:=1) u71 Z Z cO Z) Z<|O (ar u58 Z Z (a.q 0 Z 1)) Z<|M h fun D y h=>cU a Z (lJ 32 y (j.b a.fr).rp) Z fun l w a=>V 5 Z<|gl2<|V 1 Z<|have E:=a.pick (os':=[U e8 l D.1]++[Y C [b,c,N d]]) [0,1] (by decide) Z;M h fun G z h=>aJ Z (gi  z E.f ) Z ?_
 rintro _ w ⟨rfl,S⟩
 have a:=E.g S
 refine Q ?_
 refine aU (r:=r) (fun (g:Q1) L w=>L=[(4,l)]/\St [] e w [U e8 l g]) (F.KP) ?_ ?_
 rotate_left
 ·intro m
  refine R<|O (ak (k:=0) u71 Z Z cO Z) Z<|O (ar u58 Z Z (a.q 1 Z 0)) Z<|M h fun ah A h=>aS a Z (fZ 0 A (f.b a.fr).rp) Z fun w a=>Q ?_
  apply gl9 Z h<;>intro h
  ·refine al<|V 1 Z<|M h fun u q h=>O (bh u25 ti5 Z Z (a.ro 0 Z) q) Z<|O (aX Tryz.underlying5 Z Z (a.ro 0 Z) q Z) Z<|O (aj Z Z (yq _ u 128)) Z<|M h fun ac n h=>O (bh u25 ti5 Z Z (a.ro 0 Z) n) Z<|bm (bX (t:=(u ||| 128)) ti5 Z Z a (i:=0) Z n Z) fun w a=>bg h fun B s h=>?_
   rw[s]at a
   exact Q<|aB (m B _ _ ⟨Z,(a.d [0] Z Z)⟩ h) Z
  exact gl5<|aB (m G _ _ ⟨Z,(a.d [0] Z Z)⟩ h) Z
 rintro ad L w T h
 try dsimp only at T
 obtain⟨rfl,a⟩:=T
 unfold F.KP at h
 refine R<|V 3 Z<|Q<|aq ?_
 cases h
 exact bE Z Z Z ⟨l,Z,a.d [0] Z Z⟩
end Go.Proofs
