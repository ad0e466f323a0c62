import Derived.Test.YtmegjloifgfldaaGreatDoorRW0
import Derived.Test.YtmegjloifgfldaaGreatDoorGkFb64
import Derived.Test.YtmegjloifgfldaaGreatDoorRWb64
import Derived.Test.YtmegjloifgfldaaGreatDoorRWecdsa
import Derived.Test.YtmegjloifgfldaaGreatDoorRWedb
import Derived.Test.YtmegjloifgfldaaGreatDoorRWhmac
import Derived.Test.YtmegjloifgfldaaGreatDoorRWlib
import Derived.Test.YtmegjloifgfldaaGreatDoorRWpss
import Derived.Test.YtmegjloifgfldaaGreatDoorRWrsa1
import Derived.Test.YtmegjloifgfldaaGreatDoorRWshab
import Derived.Test.YtmegjloifgfldaaGreatDoorRWspki
set_option linter.unusedVariables false
set_option linter.unusedSimpArgs false
set_option linter.unusedSectionVars false
set_option maxRecDepth 4000
namespace Go.Proofs
open Go Go.RowKit Go.Gk
open Go.Gk renaming aa -> V, af -> M, ag -> O, ai -> J, gl3 -> Q, gl4 -> R, own -> U, pB -> P, vB -> N, vI -> H
open Go.Gk.OE renaming bx -> Y
theorem pu {b:World} (a0:Q1) {r:Q1×Q1×Q1×Int}
  (h:F.JR a0=some r) :Calls Tryz.prog 15 #[vS a0] b (Ret fun v w=>v=.tuple #[vS r.1,vS r.2.1,vS r.2.2.1,H r.2.2.2]/\St [] b w []):=by
 refine ay 29 Tryz.func15 Z Z Z<|have a:=St.k b;ax [(0,vS a0)] Z ?_
 unfold F.JR at h
 refine R<|V 4 Z<|gl1<|R<|V 1 Z<|O (di Tryz.underlying9 Z) Z<|V 1 Z<|Q ?_
 apply gl9 Z h<;>intro h
 ·refine R<|V 4 Z<|gl8 ?_
  cases h
  exact iD Z Z Z Z Z ⟨Z,a⟩
 refine gl5<|az<|R<|V 1 Z<|M h fun g c h=>aS a Z (rv a0 c ) Z fun w a=>V 1 Z<|Q ?_
 apply gl9 Z h<;>intro h
 ·refine R<|V 4 Z<|gl8 ?_
  cases h
  exact iD Z Z Z Z Z ⟨Z,a⟩
 refine gl6<|V 1 Z<|M h fun f d h=>aS a Z (na a0 d ) Z fun w a=>V 7 Z<|gl2<|V 1 Z<|M h fun i e h=>aS a Z (na f.2.1 e ) Z fun w a=>V 6 Z<|gl2<|V 7 Z<|Q<|aq ?_
 cases h
 exact iD Z Z Z Z Z ⟨Z,a⟩
theorem uj {g:World} (a0:Q1) {r:Q1×Q1×Q1×Int}
  (h:F.KK a0=some r) :Calls Tryz.prog 16 #[vS a0] g (Ret fun v w=>∃u0 u1 u2:Value,v=.tuple #[u0,u1,u2,H r.2.2.2]/\St [] g w [U e8 u0 r.1,U e8 u1 r.2.1,U e8 u2 r.2.2.1]):=by
 refine ay 52 Tryz.func16 Z Z Z<|have a:=St.k g;ax [(0,vS a0)] Z ?_
 unfold F.KK at h
 refine R<|V 4 Z<|gl2<|V 1 Z<|M h fun b k h=>aS a Z (pu a0 k ) Z fun w a=>V 9 Z<|gl1<|R<|V 2 Z<|Q ?_
 apply gl9 Z h<;>intro h
 ·refine R<|V 5 Z<|gl8 ?_
  cases h
  exact iD Z Z Z Z Z ⟨Q3,Q3,Q3,Z,(((a.nil e8).nil e8).nil e8).d [2,1,0] Z Z⟩
 refine gl6<|bl (bc (cs:=[Q3,Q3,Q3]) Gx Z a) Z fun p w a=>gl1<|R<|V 3 Z<|O (bR (vs:=[(0,vS b.1,[vS b.1]),(1,vS b.2.1,[vS b.2.1]),(2,vS b.2.2.1,[vS b.2.2.1])]) (cells:=[vS b.1,vS b.2.1,vS b.2.2.1]) Z FZ ⟨Z,Z,Z,K⟩ Z) Z<|V 1 Z<|Q<|av<|pG 100<|gh<|R<|O (aj Z Z (gz _ 0 3)) Z<|gl1<|cZ Z<|gl5<|az<|av<|R<|V 1 Z<|O (jh u98 Tryz.underlying9 Z sz9 Z Z (by decide) (by decide) Z) Z<|V 2 Z<|gl2<|V 1 Z<|M h fun q l h=>cU a Z (kH b.1 l ) Z fun e w a=>V 7 Z<|gl1<|R<|V 2 Z<|Q ?_
 apply gl9 Z h<;>intro h
 ·refine R<|V 5 Z<|gl8<|bb<|aN<|aN<|bb<|aN ?_
  cases h
  exact iD Z Z Z Z Z ⟨Q3,Q3,Q3,Z,(((a.nil e8).nil e8).nil e8).d [2,1,0] Z Z⟩
 refine gl5<|al<|V 2 Z<|O (gH u97 j2 Z Z (by decide) (by decide)) Z<|bm (bp (i:=1) (us:=[e]) Z j2 Z Z (bQ (a.ro 0 Z).one) ⟨(a.ro 0 Z).one,K⟩ Z a) fun w a=>aG<|aH<|am ?_
 refine al<|O (aj Z Z (jF _ 0 1)) Z<|V 1 Z<|aG<|bo<|gh<|R<|O (aj Z Z (gz _ 1 3)) Z<|gl1<|cZ Z<|gl5<|az<|av<|R<|V 1 Z<|O (jh u98 Tryz.underlying9 Z sz9 Z Z (by decide) (by decide) Z) Z<|V 2 Z<|gl2<|V 1 Z<|M h fun s m h=>cU a Z (kH b.2.1 m ) Z fun f w a=>V 7 Z<|gl1<|R<|V 2 Z<|Q ?_
 apply gl9 Z h<;>intro h
 ·refine R<|V 5 Z<|gl8<|bb<|aN<|aN<|bb<|aN ?_
  cases h
  exact iD Z Z Z Z Z ⟨Q3,Q3,Q3,Z,(((a.nil e8).nil e8).nil e8).d [2,1,0] Z Z⟩
 refine gl5<|al<|V 2 Z<|O (gH u97 j2 Z Z (by decide) (by decide)) Z<|bm (bp (i:=2) (us:=[f]) Z j2 Z Z (bQ (a.ro 0 Z).one) ⟨(a.ro 0 Z).one,K⟩ Z a) fun w a=>aG<|aH<|am ?_
 refine al<|O (aj Z Z (jF _ 1 1)) Z<|V 1 Z<|aG<|bo<|gh<|R<|O (aj Z Z (gz _ 2 3)) Z<|gl1<|cZ Z<|gl5<|az<|av<|R<|V 1 Z<|O (jh u98 Tryz.underlying9 Z sz9 Z Z (by decide) (by decide) Z) Z<|V 2 Z<|gl2<|V 1 Z<|M h fun n j h=>cU a Z (kH b.2.2.1 j ) Z fun c w a=>V 7 Z<|gl1<|R<|V 2 Z<|Q ?_
 apply gl9 Z h<;>intro h
 ·refine R<|V 5 Z<|gl8<|bb<|aN<|aN<|bb<|aN ?_
  cases h
  exact iD Z Z Z Z Z ⟨Q3,Q3,Q3,Z,(((a.nil e8).nil e8).nil e8).d [2,1,0] Z Z⟩
 refine gl5<|al<|V 2 Z<|O (gH u97 j2 Z Z (by decide) (by decide)) Z<|bm (bp (i:=3) (us:=[c]) Z j2 Z Z (bQ (a.ro 0 Z).one) ⟨(a.ro 0 Z).one,K⟩ Z a) fun w a=>aG<|aH<|am ?_
 refine al<|O (aj Z Z (jF _ 2 1)) Z<|V 1 Z<|aG<|bo<|gh<|R<|O (aj Z Z (gz _ 3 3)) Z<|gl1<|eJ Z<|aZ<|aA<|aA<|a7<|am<|az<|aQ (fun w'=>St [] g w' [U e8 c n.1,U e8 f s.1,U e8 e q.1,Y p [e,f,c]]) (fun _=>true) bK (fun _ _ _ o=>o.2) (fun _ _ o=>o) (by kernel_rfl)<|have a:=a.drew;show lxE _ _ _ _ _ _ _ [0,1,2,3,4,5,6,7,8,9] _ _ from J a Z Z (fun w d=>gH u97 j2 Z Z (by decide) (by decide)) Z<|J a Z Z (fun w d=>ar u25 Z Z (d.q 3 Z 0)) Z<|J a Z Z (fun w d=>gH u97 j2 Z Z (by decide) (by decide)) Z<|J a Z Z (fun w d=>ar u25 Z Z (d.q 3 Z 1)) Z<|J a Z Z (fun w d=>gH u97 j2 Z Z (by decide) (by decide)) Z<|J a Z Z (fun w d=>ar u25 Z Z (d.q 3 Z 2)) Z<|an 4 Z a<|a8 a<|am<|aq ?_
 cases h
 exact iD Z Z Z Z Z ⟨e,f,c,Z,a.d [2,1,0] Z Z⟩
theorem tj {e:World} {a0 a1 a2:Q1} {b c d:Value} {r:Q1×Int}
  (h:F.Jq a0 a1 a2=some r) (f:RP [] e e8 b a0) (g:RP [] e e8 c a1) (i:RP [] e e8 d a2):Calls Tryz.prog 17 #[b,c,d] e (Ret fun v w=>v=.tuple #[vS r.1,H r.2]/\St [] e w []):=by
 refine ay 38 Tryz.func17 Z Z Z<|have a:=St.k e;ax [(0,b),(1,c),(2,d)] Z ?_
 unfold F.Jq at h
 refine R<|V 2 Z<|gl2<|V 1 Z<|gl1<|R<|V 3 Z<|O (bR (vs:=[(0,b,[b]),(1,c,[c]),(2,d,[d])]) (cells:=[b,c,d]) Z F4 ⟨(bQ (f.b a.fr).one),(bQ (g.b a.fr).one),(bQ (i.b a.fr).one),K⟩ Z) Z<|V 1 Z<|Q<|av<|pG 100<|gh<|R<|O (aj Z Z (gz _ 0 3)) Z<|gl1<|cZ Z<|gl5<|az<|av<|R<|O (jh u97 u25 Z j2 Z Z (by decide) (by decide) Z) Z<|V 1 Z<|Q<|al<|V 2 Z<|O (aD u25 Z (f.b a.fr)) Z<|O (aj Z Z (ee _ (a0.length:Int) 4)) Z<|V 1 Z<|O (aj Z Z (dJ _ (wI ((wI ((a0.length:Int)*4))+2)) 3 (by decide))) Z<|V 1 Z<|bg h fun u k h=>O (bd (v:=H u) (by rw[<-k]; rfl)) Z<|aG<|aH<|am<|al<|O (aj Z Z (jF _ 0 1)) Z<|V 1 Z<|aG<|bo<|gh<|R<|O (aj Z Z (gz _ 1 3)) Z<|gl1<|cZ Z<|gl5<|az<|av<|R<|O (jh u97 u25 Z j2 Z Z (by decide) (by decide) Z) Z<|V 1 Z<|Q<|al<|V 2 Z<|O (aD u25 Z (g.b a.fr)) Z ?_
 refine O (aj Z Z (ee _ (a1.length:Int) 4)) Z<|V 1 Z<|O (aj Z Z (dJ _ (wI ((wI ((a1.length:Int)*4))+2)) 3 (by decide))) Z<|V 1 Z<|bg h fun x l h=>O (bd (v:=H x) (by rw[<-l]; rfl)) Z<|aG<|aH<|am<|al<|O (aj Z Z (jF _ 1 1)) Z<|V 1 Z<|aG<|bo<|gh<|R<|O (aj Z Z (gz _ 2 3)) Z<|gl1<|cZ Z<|gl5<|az<|av<|R<|O (jh u97 u25 Z j2 Z Z (by decide) (by decide) Z) Z<|V 1 Z<|Q<|al<|V 2 Z<|O (aD u25 Z (i.b a.fr)) Z<|O (aj Z Z (ee _ (a2.length:Int) 4)) Z<|V 1 Z<|O (aj Z Z (dJ _ (wI ((wI ((a2.length:Int)*4))+2)) 3 (by decide))) Z<|V 1 Z<|bg h fun y m h=>O (bd (v:=H y) (by rw[<-m]; rfl)) Z<|aG<|aH<|am<|al<|O (aj Z Z (jF _ 2 1)) Z<|V 1 Z<|aG<|bo<|gh<|R<|O (aj Z Z (gz _ 3 3)) Z<|gl1<|eJ Z<|aZ<|aA<|aA<|a7<|am<|az<|R<|V 2 Z<|Q ?_
 apply gl9 Z h<;>intro h
 ·refine R<|V 2 Z<|gl8 ?_
  cases h
  exact bE Z Z Z ⟨Z,a⟩
 refine gl6<|V 1 Z<|M h fun A n h=>aS a Z (kx  n (f.b a.fr).rp) Z fun w a=>M h fun B o h=>O (aj Z Z (qr _ o)) Z<|V 1 Z<|M h fun C p h=>aS a Z (kx  p (g.b a.fr).rp) Z fun w a=>M h fun D q h=>O (aj Z Z (qr _ q)) Z<|M h fun E s h=>O (aj Z Z (qr _ s)) Z<|V 1 Z<|M h fun G t h=>aS a Z (kx  t (i.b a.fr).rp) Z fun w a=>M h fun z j h=>O (aj Z Z (qr _ j)) Z<|V 2 Z<|Q<|aq ?_
 cases h
 exact bE Z Z Z ⟨Z,a⟩
theorem mY {f:World} (a0:Int) {r:Int×Int×Int}
  (h:F.Hh a0=some r) :Calls Tryz.prog 19 #[H a0] f (Ret fun v w=>v=.tuple #[H r.1,H r.2.1,H r.2.2]/\St [] f w []):=by
 refine ay 33 Tryz.func19 Z Z Z<|have a:=St.k f;ax [(0,H a0)] Z ?_
 unfold F.Hh at h
 refine R<|V 3 Z<|gl1<|R<|V 1 Z<|Q<|av ?_
 refine aU (r:=r) (fun (g:Bool) L w=>L=[(0,H a0),(5,H a0),(6,N g)]/\St [] f w []) (F.Iq a0) ?_ ?_
 rotate_left
 ·intro d
  refine R<|V 2 Z<|Q ?_
  apply gl9 Z h<;>intro h
  ·exact gl5<|aB (d (a0 == 1) _ _ ⟨Z,a⟩ h) Z
  refine R<|V 2 Z<|Q ?_
  apply gl9 Z h<;>intro h
  ·exact gl5<|aB (d (a0 == 2) _ _ ⟨Z,a⟩ h) Z
  exact al<|V 2 Z<|Q<|aB (d (a0 == 3) _ _ ⟨Z,a⟩ h) Z
 rintro j L w c h
 try dsimp only at c
 obtain⟨rfl,a⟩:=c
 unfold F.Iq at h
 apply gl9 Z h<;>intro h
 ·refine R<|V 6 Z<|Q<|aq<|bb<|aN ?_
  cases h
  exact dH Z Z Z Z ⟨Z,a⟩
 refine aU (r:=r) (fun (g:Bool) L w=>L=[(0,H a0),(5,H a0),(13,N g)]/\St [] f w []) (F.II a0) ?_ ?_
 rotate_left
 ·intro e
  refine R<|V 2 Z<|Q ?_
  apply gl9 Z h<;>intro h
  ·exact gl5<|aB (e (a0 == 4) _ _ ⟨Z,a⟩ h) Z
  refine R<|V 2 Z<|Q ?_
  apply gl9 Z h<;>intro h
  ·exact gl5<|aB (e (a0 == 5) _ _ ⟨Z,a⟩ h) Z
  exact al<|V 2 Z<|Q<|aB (e (a0 == 6) _ _ ⟨Z,a⟩ h) Z
 rintro k L w c h
 try dsimp only at c
 obtain⟨rfl,a⟩:=c
 unfold F.II at h
 apply gl9 Z h<;>intro h
 ·refine R<|V 6 Z<|Q<|aq<|bb<|aN ?_
  cases h
  exact dH Z Z Z Z ⟨Z,a⟩
 refine aU (r:=r) (fun (g:Bool) L w=>L=[(0,H a0),(5,H a0),(20,N g)]/\St [] f w []) (F.I6 a0) ?_ ?_
 rotate_left
 ·intro b
  refine R<|V 2 Z<|Q ?_
  apply gl9 Z h<;>intro h
  ·exact gl5<|aB (b (a0 == 7) _ _ ⟨Z,a⟩ h) Z
  refine R<|V 2 Z<|Q ?_
  apply gl9 Z h<;>intro h
  ·exact gl5<|aB (b (a0 == 8) _ _ ⟨Z,a⟩ h) Z
  exact al<|V 2 Z<|Q<|aB (b (a0 == 9) _ _ ⟨Z,a⟩ h) Z
 rintro i L w c h
 try dsimp only at c
 obtain⟨rfl,a⟩:=c
 unfold F.I6 at h
 apply gl9 Z h<;>intro h
 ·refine R<|V 6 Z<|Q<|aq<|bb<|aN ?_
  cases h
  exact dH Z Z Z Z ⟨Z,a⟩
 refine R<|V 2 Z<|Q ?_
 apply gl9 Z h<;>intro h
 ·refine R<|V 3 Z<|Q<|aq<|bb<|aN ?_
  cases h
  exact dH Z Z Z Z ⟨Z,a⟩
 refine R<|V 2 Z<|Q ?_
 apply gl9 Z h<;>intro h
 ·refine R<|V 3 Z<|Q<|aq<|bb<|aN ?_
  cases h
  exact dH Z Z Z Z ⟨Z,a⟩
 refine R<|V 2 Z<|Q ?_
 apply gl9 Z h<;>intro h
 ·refine R<|V 3 Z<|Q<|aq<|bb<|aN ?_
  cases h
  exact dH Z Z Z Z ⟨Z,a⟩
 refine cf<|aH<|am<|R<|V 3 Z<|Q<|aq ?_
 cases h
 exact dH Z Z Z Z ⟨Z,a⟩
theorem zr {e:World} {a1:Q1} {c:Value} (a0:Int) (a2:Q1) {r:Q1×Int}
  (h:F.KH a0 a1 a2=some r) (p:TB [] e) (f:RP [] e e8 c a1):Calls Tryz.prog 18 #[H a0,c,vS a2] e (Ret fun v w=>∃u0:Value,v=.tuple #[u0,H r.2]/\St [] e w [U e8 u0 r.1]):=by
 refine ay 36 Tryz.func18 Z Z Z<|have a:=St.k e;ax [(0,H a0),(1,c),(2,vS a2)] Z ?_
 unfold F.KH at h
 refine R<|V 2 Z<|gl2<|V 1 Z<|M h fun d j h=>aS a Z (mY a0 j ) Z fun w a=>V 7 Z<|gl1<|av<|R<|V 3 Z<|Q ?_
 apply gl9 Z h<;>intro h
 ·refine R<|V 2 Z<|Q<|aq<|bb<|aN ?_
  cases h
  exact bE Z Z Z ⟨Q3,Z,(a.nil e8).d [0] Z Z⟩
 refine aU (r:=r) (fun (g:Bool) L w=>L=[(1,c),(2,vS a2),(9,H d.2.1),(20,N g)]/\St [] e w []) (F.Kw a1 a2 d) ?_ ?_
 rotate_left
 ·intro i
  refine al<|V 1 Z<|O (aD u25 Z (f.b a.fr)) Z<|V 1 Z<|M h fun m k h=>aS a Z (eH d.2.1 k ) Z fun w a=>V 2 Z ?_
  cases b:(decide ((a1.length:Int)<m))
  case true=>
   have h:=bH h b
   try simp only[b]
   exact V 5 Z<|Q<|aB (i true _ _ ⟨Z,a⟩ h) Z
  case false=>
   have h:=bI h b
   try simp only[b]
   exact V 1 Z<|aO (t:=26) Z Z (aD u25 Z (f.b a.fr)) Z<|V 3 Z<|Q<|aB (i (decide ((4096:Int)<(a1.length:Int))) _ _ ⟨Z,a⟩ h) Z
 rintro q L w n h
 try dsimp only at n
 obtain⟨rfl,a⟩:=n
 unfold F.Kw at h
 apply gl9 Z h<;>intro h
 ·refine R<|V 2 Z<|Q<|aq<|bb<|aN ?_
  cases h
  exact bE Z Z Z ⟨Q3,Z,(a.nil e8).d [0] Z Z⟩
 refine cf<|aH<|am<|R<|V 3 Z<|bn (sO Tryz.underlying9 u25 Tryz.underlying5 Z a) Z fun s w a=>M h fun u l h=>aM a Z (qs d.2.1 l (p.b a.fr) (f.b a.fr).rp (a.rro 0 Z).rp) Z fun o w a=>V 2 Z<|Q<|aq ?_
 cases h
 exact bE Z Z Z ⟨o,Z,a.d [0] Z Z⟩
theorem kf {l:World} {p q s u x:Q1} {c d e f i:Value} (a0 b j:Int) {r:Bool}
  (h:F.Hu a0 b j p q s u x=some r) (C:RP [] l e8 c p) (D:RP [] l e8 d q) (E:RP [] l e8 e s) (G:RP [] l e8 f u) (S:RP [] l e8 i x):Calls Tryz.prog 13 #[H a0,.agg #[H b,H j,c,d,e,f,i]] l (Ret fun v w=>v=N r/\St [] l w []):=by
 refine ay 48 Tryz.func13 Z Z Z<|have a:=St.k l;ax [(0,H a0),(1,.agg #[H b,H j,c,d,e,f,i])] Z ?_
 unfold F.Hu at h
 refine R<|bl (cy (cs:=[H b,H j,c,d,e,f,i]) Z Z a) Z fun z w a=>V 1 Z<|gl2<|V 1 Z<|M h fun o A h=>aS a Z (mY a0 A ) Z fun w a=>V 7 Z<|gl1<|R<|V 1 Z<|Q<|av<|R<|V 2 Z<|Q ?_
 apply gl9 Z h<;>intro h
 ·refine R<|O (ak (k:=0) u27 Z Z lF Z) Z<|O (ar u23 Z Z (a.q 0 Z 0)) Z<|V 2 Z<|Q<|aq<|bb<|aN ?_
  cases h
  exact au Z Z ⟨Z,a.d [] Z Z⟩
 refine aU (r:=r) (fun (g:Bool) L w=>L=[(3,P z 0),(7,H o.2.2),(14,H o.1),(20,N g)]/\St [] l w [Y z [H b,H j,c,d,e,f,i]]) (F.L3 b j o) ?_ ?_
 rotate_left
 ·intro y
  refine R<|V 2 Z<|Q ?_
  apply gl9 Z h<;>intro h
  ·exact gl5<|aB (y (o.1 == 2) _ _ ⟨Z,a⟩ h) Z
  exact al<|V 2 Z<|Q<|aB (y (o.1 == 3) _ _ ⟨Z,a⟩ h) Z
 rintro T L w B h
 try dsimp only at B
 obtain⟨rfl,a⟩:=B
 unfold F.L3 at h
 apply gl9 Z h<;>intro h
 ·refine R<|O (ak (k:=0) u27 Z Z lF Z) Z<|O (ar u23 Z Z (a.q 0 Z 0)) Z<|V 2 Z<|Q<|aq<|bb<|aN ?_
  cases h
  exact au Z Z ⟨Z,a.d [] Z Z⟩
 refine R<|V 2 Z<|Q ?_
 apply gl9 Z h<;>intro h
 ·refine R<|O (ak (k:=0) u27 Z Z lF Z) Z<|O (ar u23 Z Z (a.q 0 Z 0)) Z<|V 2 Z ?_
  cases m:(b == 3)
  case true=>
   have h:=bH h m
   try simp only[m]
   refine aO (t:=31) Z Z (ak (k:=1) u27 Z Z qb Z) Z<|aO (t:=31) Z Z (ar u24 Z Z (a.q 0 Z 1)) Z<|V 4 Z<|Q<|aq<|bb<|aN ?_
   cases h
   exact au Z Z ⟨Z,a.d [] Z Z⟩
  case false=>
   have h:=bI h m
   try simp only[m]
   refine V 6 Z<|Q<|aq<|bb<|aN ?_
   cases h
   exact au Z Z ⟨Z,a.d [] Z Z⟩
 refine R<|V 2 Z<|Q ?_
 apply gl9 Z h<;>intro h
 ·refine R<|O (ak (k:=0) u27 Z Z lF Z) Z<|O (ar u23 Z Z (a.q 0 Z 0)) Z<|V 2 Z ?_
  cases n:(b == 4)
  case true=>
   have h:=bH h n
   try simp only[n]
   refine aO (t:=42) Z Z (ak (k:=1) u27 Z Z qb Z) Z<|aO (t:=42) Z Z (ar u24 Z Z (a.q 0 Z 1)) Z<|V 4 Z<|Q<|aq<|bb<|aN ?_
   cases h
   exact au Z Z ⟨Z,a.d [] Z Z⟩
  case false=>
   have h:=bI h n
   try simp only[n]
   refine V 6 Z<|Q<|aq<|bb<|aN ?_
   cases h
   exact au Z Z ⟨Z,a.d [] Z Z⟩
 refine cf<|aH<|am<|R<|V 1 Z<|Q<|aq ?_
 cases h
 exact au Z Z ⟨Z,a.d [] Z Z⟩
theorem jz {p:World} {y D E G S a3:Q1} {c d e f j T:Value} (a0 l m:Int) (a2:Q1) {r:Int}
  (h:F.G2 a0 l m y D E G S a2 a3=some r) (hT:TB [] p) (q:RP [] p e8 c y) (s:RP [] p e8 d D) (u:RP [] p e8 e E) (x:RP [] p e8 f G) (z:RP [] p e8 j S) (C:RP [] p e8 T a3):Calls Tryz.prog 6 #[H a0,.agg #[H l,H m,c,d,e,f,j],vS a2,T] p (Ret fun v w=>v=H r/\St [] p w []):=by
 refine ay 92 Tryz.func6 Z Z Z<|have a:=St.k p;ax [(0,H a0),(1,.agg #[H l,H m,c,d,e,f,j]),(2,vS a2),(3,T)] Z ?_
 unfold F.G2 at h
 refine R<|bl (cy (cs:=[H l,H m,c,d,e,f,j]) Z Z a) Z fun ad w a=>V 1 Z<|gl2<|V 1 Z<|M h fun n aC h=>aS a Z (mY a0 aC ) Z fun w a=>V 7 Z<|gl1<|av<|R<|V 3 Z<|Q ?_
 apply gl9 Z h<;>intro h
 ·refine R<|V 1 Z<|Q<|aq<|bb<|aN ?_
  cases h
  exact au Z Z ⟨Z,a.d [] Z Z⟩
 refine R<|V 1 Z<|O (bO (us:=[H l,H m,c,d,e,f,j]) u27 Z kw Z (a.p 0 Z Z)) Z<|M h fun aX aE h=>aS a Z (kf a0 l m aE (q.b a.fr).rp (s.b a.fr).rp (u.b a.fr).rp (x.b a.fr).rp (z.b a.fr).rp) Z fun w a=>V 2 Z<|Q ?_
 apply gl9 Z h<;>intro h
 ·refine R<|V 1 Z<|Q<|aq<|bb<|aN ?_
  cases h
  exact au Z Z ⟨Z,a.d [] Z Z⟩
 refine aU (r:=r) (fun (g:Bool) L w=>L=[(2,vS a2),(3,T),(5,P ad 0),(9,H n.1),(10,H n.2.1),(11,H n.2.2),(28,N g)]/\St [] p w [Y ad [H l,H m,c,d,e,f,j]]) (F.Hk y D E G S a2 a3 n) ?_ ?_
 rotate_left
 ·intro A
  refine R<|O (bO (us:=[H l,H m,c,d,e,f,j]) u27 Z kw Z (a.p 0 Z Z)) Z<|M h fun aP aF h=>aS a Z (vF l m aF (hT.b a.fr) (q.b a.fr).rp (s.b a.fr).rp (u.b a.fr).rp (x.b a.fr).rp (z.b a.fr).rp) Z fun w a=>V 2 Z<|Q ?_
  apply gl9 Z h<;>intro h
  ·exact gl5<|aB (A (aP != 0) _ _ ⟨Z,a⟩ h) Z
  refine aQ (fun w'=>St [] p w' [Y ad [H l,H m,c,d,e,f,j]]) (fun i=>!([7].contains i)) bK (fun _ _ _ hf=>hf.2) (fun _ _ hf=>hf) (by kernel_rfl)<|have a:=a.drew;show lxE _ _ _ _ _ _ _ [0,1,2,3,4,5,6,7,8,9,10] _ _ from an 3 Z a ?_
  cases B:(n.1 == 1)
  case true=>
   have h:=bH h B
   try simp only[B]
   refine bW (t:=34) a Z Z Z Z (fun w hF=>ak (k:=2) u27 Z Z dU Z) Z<|bW (t:=34) a Z Z Z Z (fun w hF=>ar u25 Z Z (hF.q 0 Z 2)) Z<|bW (t:=34) a Z Z Z Z (fun w hF=>aD u25 Z (q.b hF.fr)) Z<|bW (t:=34) a Z Z Z Z (fun w hF=>ea Z) Z<|M h fun aA aJ h=>iJ (t:=34) a Z Z Z Z (by kernel_rfl) Z (eH n.2.1 aJ ) Z ?_
   rintro _ w ⟨rfl,aR⟩
   have a:=a.e aR
   exact bW (t:=34) a Z Z Z Z (fun w hF=>aj Z Z (gz _ (y.length:Int) aA)) Z<|an 2 Z a<|a8 a<|am<|aB (A (decide ((y.length:Int)<aA)) _ _ ⟨Z,a⟩ h) Z
  case false=>
   have h:=bI h B
   try simp only[B]
   exact a9 (b:=false) (t:=34) a Z Z Z Z Z Z<|a9 (b:=false) (t:=34) a Z Z Z Z Z Z<|a9 (b:=false) (t:=34) a Z Z Z Z Z Z<|a9 (b:=false) (t:=34) a Z Z Z Z Z Z<|en (b:=false) (t:=34) a Z Z Z Z Z Z<|a9 (b:=false) (t:=34) a Z Z Z Z Z Z<|an 2 Z a<|a8 a<|am<|aB (A false _ _ ⟨Z,a⟩ h) Z
 rintro aY L w hJ h
 try dsimp only at hJ
 obtain⟨rfl,a⟩:=hJ
 unfold F.Hk at h
 apply gl9 Z h<;>intro h
 ·refine R<|V 1 Z<|Q<|aq<|bb<|aN ?_
  cases h
  exact au Z Z ⟨Z,a.d [] Z Z⟩
 refine cf<|aH<|am<|R<|V 1 Z<|bn (sO Tryz.underlying9 u25 Tryz.underlying5 Z a) Z fun aT w a=>V 1 Z<|gl2<|V 1 Z<|Q ?_
 refine aU (r:=r) (fun (g:Int) L w=>L=[(13,H g)]/\St [] p w []) (F.Hg) ?_ ?_
 rotate_left
 ·intro o
  refine R<|V 1 Z<|Q<|av<|R<|V 2 Z<|Q ?_
  apply gl9 Z h<;>intro h
  ·refine R<|V 1 Z<|O (ak (k:=2) u27 Z Z dU Z) Z<|O (ar u25 Z Z (a.q 1 Z 2)) Z<|V 2 Z<|M h fun aV ah h=>aS a Z (vR n.2.1 ah (hT.b a.fr) (q.b a.fr).rp (a.rro 0 Z).rp (C.b a.fr).rp) Z fun w a=>V 1 Z<|Q ?_
   apply gl9 Z h<;>intro h
   ·exact al<|V 1 Z<|aG<|aH<|am<|aB (o 91 _ _ ⟨Z,(a.d [] Z Z)⟩ h) Z
   exact cf<|aH<|am<|aB (o 0 _ _ ⟨Z,(a.d [] Z Z)⟩ h) Z
  refine R<|V 2 Z<|Q ?_
  apply gl9 Z h<;>intro h
  ·exact al<|V 1 Z<|O (ak (k:=3) u27 Z Z dU Z) Z<|O (ar u25 Z Z (a.q 1 Z 3)) Z<|O (ak (k:=4) u27 Z Z dU Z) Z<|O (ar u25 Z Z (a.q 1 Z 4)) Z<|V 2 Z<|M h fun aK J h=>aS a Z (tt n.2.1 J (hT.b a.fr) (s.b a.fr).rp (u.b a.fr).rp (a.rro 0 Z).rp (C.b a.fr).rp) Z fun w a=>V 1 Z<|aG<|aH<|am<|aB (o aK _ _ ⟨Z,(a.d [] Z Z)⟩ h) Z
  refine R<|V 2 Z<|Q ?_
  apply gl9 Z h<;>intro h
  ·exact al<|V 1 Z<|O (ak (k:=3) u27 Z Z dU Z) Z<|O (ar u25 Z Z (a.q 1 Z 3)) Z<|O (ak (k:=4) u27 Z Z dU Z) Z<|O (ar u25 Z Z (a.q 1 Z 4)) Z<|V 2 Z<|M h fun aL ao h=>aS a Z (tT n.2.1 ao (hT.b a.fr) (s.b a.fr).rp (u.b a.fr).rp (a.rro 0 Z).rp (C.b a.fr).rp) Z fun w a=>V 1 Z<|aG<|aH<|am<|aB (o aL _ _ ⟨Z,(a.d [] Z Z)⟩ h) Z
  refine R<|V 2 Z<|Q ?_
  apply gl9 Z h<;>intro h
  ·exact al<|V 2 Z<|O (ak (k:=5) u27 Z Z dU Z) Z<|O (ar u25 Z Z (a.q 1 Z 5)) Z<|O (ak (k:=6) u27 Z Z dU Z) Z<|O (ar u25 Z Z (a.q 1 Z 6)) Z<|V 2 Z<|M h fun aM ap h=>aS a Z (rK n.2.1 n.2.2 ap (hT.b a.fr) (x.b a.fr).rp (z.b a.fr).rp (a.rro 0 Z).rp (C.b a.fr).rp) Z fun w a=>V 1 Z<|aG<|aH<|am<|aB (o aM _ _ ⟨Z,(a.d [] Z Z)⟩ h) Z
  exact al<|O (ak (k:=5) u27 Z Z dU Z) Z<|O (ar u25 Z Z (a.q 1 Z 5)) Z<|V 2 Z<|M h fun aO aw h=>aS a Z (wD  aw (hT.b a.fr) (x.b a.fr).rp (a.rro 0 Z).rp (C.b a.fr).rp) Z fun w a=>V 1 Z<|aG<|aH<|am<|aB (o aO _ _ ⟨Z,(a.d [] Z Z)⟩ h) Z
 rintro aW L w hJ h
 try dsimp only at hJ
 obtain⟨rfl,a⟩:=hJ
 unfold F.Hg at h
 refine az<|R<|V 2 Z<|Q ?_
 apply gl9 Z h<;>intro h
 ·refine R<|V 1 Z<|gl8 ?_
  cases h
  exact au Z Z ⟨Z,a⟩
 refine gl6<|V 1 Z<|Q<|aq ?_
 cases h
 exact au Z Z ⟨Z,a⟩
end Go.Proofs
