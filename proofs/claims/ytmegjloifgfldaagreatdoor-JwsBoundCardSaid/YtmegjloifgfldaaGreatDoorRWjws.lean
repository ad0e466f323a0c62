import Derived.Test.YtmegjloifgfldaaGreatDoorRW0
import Derived.Test.YtmegjloifgfldaaGreatDoorGkFb64
import Derived.Test.YtmegjloifgfldaaGreatDoorRWb64
import Derived.Test.YtmegjloifgfldaaGreatDoorRWecdsa
import Derived.Test.YtmegjloifgfldaaGreatDoorRWedb
import Derived.Test.YtmegjloifgfldaaGreatDoorRWhmac
import Derived.Test.YtmegjloifgfldaaGreatDoorRWlib
import Derived.Test.YtmegjloifgfldaaGreatDoorRWpss
import Derived.Test.YtmegjloifgfldaaGreatDoorRWrsa1
import Derived.Test.YtmegjloifgfldaaGreatDoorRWshab
import Derived.Test.YtmegjloifgfldaaGreatDoorRWspki
set_option linter.unusedVariables false
set_option linter.unusedSimpArgs false
set_option linter.unusedSectionVars false
set_option maxRecDepth 4000
namespace Go.Proofs
open Go Go.RowKit Go.Gk
open Go.Gk renaming aa -> V, af -> M, ag -> O, ai -> J, gl3 -> Q, gl4 -> R, own -> U, pB -> P, vB -> N, vI -> H
open Go.Gk.OE renaming bx -> Y
theorem pz {b:World} (a0:Q1) {r:Q1×Q1×Q1×Int}
  (h:F.J1 a0=some r) :Calls Tryz.prog 15 #[vS a0] b (Ret fun v w=>v=.tuple #[vS r.1,vS r.2.1,vS r.2.2.1,H r.2.2.2]/\St [] b w []):=by
 refine ax 29 Tryz.func15 Z Z Z<|have a:=St.k b;ay [(0,vS a0)] Z ?_
 unfold F.J1 at h
 refine R<|V 4 Z<|gl1<|R<|V 1 Z<|O (dn Tryz.underlying9 Z) Z<|V 1 Z<|Q ?_
 apply gl9 Z h<;>intro h
 ·refine R<|V 4 Z<|gl8 ?_
  cases h
  exact iI Z Z Z Z Z ⟨Z,a⟩
 refine gl5<|az<|R<|V 1 Z<|M h fun g c h=>aR a Z (rC a0 c ) Z fun w a=>V 1 Z<|Q ?_
 apply gl9 Z h<;>intro h
 ·refine R<|V 4 Z<|gl8 ?_
  cases h
  exact iI Z Z Z Z Z ⟨Z,a⟩
 refine gl6<|V 1 Z<|M h fun f d h=>aR a Z (nk a0 d ) Z fun w a=>V 7 Z<|gl2<|V 1 Z<|M h fun i e h=>aR a Z (nk f.2.1 e ) Z fun w a=>V 6 Z<|gl2<|V 7 Z<|Q<|ar ?_
 cases h
 exact iI Z Z Z Z Z ⟨Z,a⟩
theorem un {g:World} (a0:Q1) {r:Q1×Q1×Q1×Int}
  (h:F.KW a0=some r) :Calls Tryz.prog 16 #[vS a0] g (Ret fun v w=>∃u0 u1 u2:Value,v=.tuple #[u0,u1,u2,H r.2.2.2]/\St [] g w [U e8 u0 r.1,U e8 u1 r.2.1,U e8 u2 r.2.2.1]):=by
 refine ax 52 Tryz.func16 Z Z Z<|have a:=St.k g;ay [(0,vS a0)] Z ?_
 unfold F.KW at h
 refine R<|V 4 Z<|gl2<|V 1 Z<|M h fun b k h=>aR a Z (pz a0 k ) Z fun w a=>V 9 Z<|gl1<|R<|V 2 Z<|Q ?_
 apply gl9 Z h<;>intro h
 ·refine R<|V 5 Z<|gl8 ?_
  cases h
  exact iI Z Z Z Z Z ⟨Q3,Q3,Q3,Z,(((a.nil e8).nil e8).nil e8).d [2,1,0] Z Z⟩
 refine gl6<|bl (bf (cs:=[Q3,Q3,Q3]) GC Z a) Z fun p w a=>gl1<|R<|V 3 Z<|O (bR (vs:=[(0,vS b.1,[vS b.1]),(1,vS b.2.1,[vS b.2.1]),(2,vS b.2.2.1,[vS b.2.2.1])]) (cells:=[vS b.1,vS b.2.1,vS b.2.2.1]) Z F6 ⟨Z,Z,Z,K⟩ Z) Z<|V 1 Z<|Q<|av<|pK 100<|gk<|R<|O (aj Z Z (gB _ 0 3)) Z<|gl1<|c8 Z<|gl5<|az<|av<|R<|V 1 Z<|O (jl u98 Tryz.underlying9 Z sz9 Z Z (by decide) (by decide) Z) Z<|V 2 Z<|gl2<|V 1 Z<|M h fun q l h=>cV a Z (kK b.1 l ) Z fun e w a=>V 7 Z<|gl1<|R<|V 2 Z<|Q ?_
 apply gl9 Z h<;>intro h
 ·refine R<|V 5 Z<|gl8<|aZ<|aM<|aM<|aZ<|aM ?_
  cases h
  exact iI Z Z Z Z Z ⟨Q3,Q3,Q3,Z,(((a.nil e8).nil e8).nil e8).d [2,1,0] Z Z⟩
 refine gl5<|am<|V 2 Z<|O (gK u97 j6 Z Z (by decide) (by decide)) Z<|bo (bq (i:=1) (us:=[e]) Z j6 Z Z (bQ (a.ro 0 Z).one) ⟨(a.ro 0 Z).one,K⟩ Z a) fun w a=>aE<|aF<|al ?_
 refine am<|O (aj Z Z (jI _ 0 1)) Z<|V 1 Z<|aE<|bn<|gk<|R<|O (aj Z Z (gB _ 1 3)) Z<|gl1<|c8 Z<|gl5<|az<|av<|R<|V 1 Z<|O (jl u98 Tryz.underlying9 Z sz9 Z Z (by decide) (by decide) Z) Z<|V 2 Z<|gl2<|V 1 Z<|M h fun s m h=>cV a Z (kK b.2.1 m ) Z fun f w a=>V 7 Z<|gl1<|R<|V 2 Z<|Q ?_
 apply gl9 Z h<;>intro h
 ·refine R<|V 5 Z<|gl8<|aZ<|aM<|aM<|aZ<|aM ?_
  cases h
  exact iI Z Z Z Z Z ⟨Q3,Q3,Q3,Z,(((a.nil e8).nil e8).nil e8).d [2,1,0] Z Z⟩
 refine gl5<|am<|V 2 Z<|O (gK u97 j6 Z Z (by decide) (by decide)) Z<|bo (bq (i:=2) (us:=[f]) Z j6 Z Z (bQ (a.ro 0 Z).one) ⟨(a.ro 0 Z).one,K⟩ Z a) fun w a=>aE<|aF<|al ?_
 refine am<|O (aj Z Z (jI _ 1 1)) Z<|V 1 Z<|aE<|bn<|gk<|R<|O (aj Z Z (gB _ 2 3)) Z<|gl1<|c8 Z<|gl5<|az<|av<|R<|V 1 Z<|O (jl u98 Tryz.underlying9 Z sz9 Z Z (by decide) (by decide) Z) Z<|V 2 Z<|gl2<|V 1 Z<|M h fun n j h=>cV a Z (kK b.2.2.1 j ) Z fun c w a=>V 7 Z<|gl1<|R<|V 2 Z<|Q ?_
 apply gl9 Z h<;>intro h
 ·refine R<|V 5 Z<|gl8<|aZ<|aM<|aM<|aZ<|aM ?_
  cases h
  exact iI Z Z Z Z Z ⟨Q3,Q3,Q3,Z,(((a.nil e8).nil e8).nil e8).d [2,1,0] Z Z⟩
 refine gl5<|am<|V 2 Z<|O (gK u97 j6 Z Z (by decide) (by decide)) Z<|bo (bq (i:=3) (us:=[c]) Z j6 Z Z (bQ (a.ro 0 Z).one) ⟨(a.ro 0 Z).one,K⟩ Z a) fun w a=>aE<|aF<|al ?_
 refine am<|O (aj Z Z (jI _ 2 1)) Z<|V 1 Z<|aE<|bn<|gk<|R<|O (aj Z Z (gB _ 3 3)) Z<|gl1<|eL Z<|a7<|aB<|aB<|a8<|al<|az<|aQ (fun w'=>St [] g w' [U e8 c n.1,U e8 f s.1,U e8 e q.1,Y p [e,f,c]]) (fun _=>true) bL (fun _ _ _ o=>o.2) (fun _ _ o=>o) (by kernel_rfl)<|have a:=a.drew;show lxE _ _ _ _ _ _ _ [0,1,2,3,4,5,6,7,8,9] _ _ from J a Z Z (fun w d=>gK u97 j6 Z Z (by decide) (by decide)) Z<|J a Z Z (fun w d=>ao u25 Z Z (d.q 3 Z 0)) Z<|J a Z Z (fun w d=>gK u97 j6 Z Z (by decide) (by decide)) Z<|J a Z Z (fun w d=>ao u25 Z Z (d.q 3 Z 1)) Z<|J a Z Z (fun w d=>gK u97 j6 Z Z (by decide) (by decide)) Z<|J a Z Z (fun w d=>ao u25 Z Z (d.q 3 Z 2)) Z<|an 4 Z a<|a9 a<|al<|ar ?_
 cases h
 exact iI Z Z Z Z Z ⟨e,f,c,Z,a.d [2,1,0] Z Z⟩
theorem tr {e:World} {a0 a1 a2:Q1} {b c d:Value} {r:Q1×Int}
  (h:F.JA a0 a1 a2=some r) (f:RP [] e e8 b a0) (g:RP [] e e8 c a1) (i:RP [] e e8 d a2):Calls Tryz.prog 17 #[b,c,d] e (Ret fun v w=>v=.tuple #[vS r.1,H r.2]/\St [] e w []):=by
 refine ax 38 Tryz.func17 Z Z Z<|have a:=St.k e;ay [(0,b),(1,c),(2,d)] Z ?_
 unfold F.JA at h
 refine R<|V 2 Z<|gl2<|V 1 Z<|gl1<|R<|V 3 Z<|O (bR (vs:=[(0,b,[b]),(1,c,[c]),(2,d,[d])]) (cells:=[b,c,d]) Z Gb ⟨(bQ (f.b a.fr).one),(bQ (g.b a.fr).one),(bQ (i.b a.fr).one),K⟩ Z) Z<|V 1 Z<|Q<|av<|pK 100<|gk<|R<|O (aj Z Z (gB _ 0 3)) Z<|gl1<|c8 Z<|gl5<|az<|av<|R<|O (jl u97 u25 Z j6 Z Z (by decide) (by decide) Z) Z<|V 1 Z<|Q<|am<|V 2 Z<|O (aD u25 Z (f.b a.fr)) Z<|O (aj Z Z (dV _ (a0.length:Int) 4)) Z<|V 1 Z<|O (aj Z Z (dM _ (wI ((wI ((a0.length:Int)*4))+2)) 3 (by decide))) Z<|V 1 Z<|bd h fun u k h=>O (bc (v:=H u) (by rw[<-k]; rfl)) Z<|aE<|aF<|al<|am<|O (aj Z Z (jI _ 0 1)) Z<|V 1 Z<|aE<|bn<|gk<|R<|O (aj Z Z (gB _ 1 3)) Z<|gl1<|c8 Z<|gl5<|az<|av<|R<|O (jl u97 u25 Z j6 Z Z (by decide) (by decide) Z) Z<|V 1 Z<|Q<|am<|V 2 Z<|O (aD u25 Z (g.b a.fr)) Z ?_
 refine O (aj Z Z (dV _ (a1.length:Int) 4)) Z<|V 1 Z<|O (aj Z Z (dM _ (wI ((wI ((a1.length:Int)*4))+2)) 3 (by decide))) Z<|V 1 Z<|bd h fun x l h=>O (bc (v:=H x) (by rw[<-l]; rfl)) Z<|aE<|aF<|al<|am<|O (aj Z Z (jI _ 1 1)) Z<|V 1 Z<|aE<|bn<|gk<|R<|O (aj Z Z (gB _ 2 3)) Z<|gl1<|c8 Z<|gl5<|az<|av<|R<|O (jl u97 u25 Z j6 Z Z (by decide) (by decide) Z) Z<|V 1 Z<|Q<|am<|V 2 Z<|O (aD u25 Z (i.b a.fr)) Z<|O (aj Z Z (dV _ (a2.length:Int) 4)) Z<|V 1 Z<|O (aj Z Z (dM _ (wI ((wI ((a2.length:Int)*4))+2)) 3 (by decide))) Z<|V 1 Z<|bd h fun y m h=>O (bc (v:=H y) (by rw[<-m]; rfl)) Z<|aE<|aF<|al<|am<|O (aj Z Z (jI _ 2 1)) Z<|V 1 Z<|aE<|bn<|gk<|R<|O (aj Z Z (gB _ 3 3)) Z<|gl1<|eL Z<|a7<|aB<|aB<|a8<|al<|az<|R<|V 2 Z<|Q ?_
 apply gl9 Z h<;>intro h
 ·refine R<|V 2 Z<|gl8 ?_
  cases h
  exact bH Z Z Z ⟨Z,a⟩
 refine gl6<|V 1 Z<|M h fun A n h=>aR a Z (kA  n (f.b a.fr).rp) Z fun w a=>M h fun B o h=>O (aj Z Z (qv _ o)) Z<|V 1 Z<|M h fun C p h=>aR a Z (kA  p (g.b a.fr).rp) Z fun w a=>M h fun D q h=>O (aj Z Z (qv _ q)) Z<|M h fun E s h=>O (aj Z Z (qv _ s)) Z<|V 1 Z<|M h fun G t h=>aR a Z (kA  t (i.b a.fr).rp) Z fun w a=>M h fun z j h=>O (aj Z Z (qv _ j)) Z<|V 2 Z<|Q<|ar ?_
 cases h
 exact bH Z Z Z ⟨Z,a⟩
theorem ng {f:World} (a0:Int) {r:Int×Int×Int}
  (h:F.Hl a0=some r) :Calls Tryz.prog 19 #[H a0] f (Ret fun v w=>v=.tuple #[H r.1,H r.2.1,H r.2.2]/\St [] f w []):=by
 refine ax 33 Tryz.func19 Z Z Z<|have a:=St.k f;ay [(0,H a0)] Z ?_
 unfold F.Hl at h
 refine R<|V 3 Z<|gl1<|R<|V 1 Z<|Q<|av ?_
 refine aT (r:=r) (fun (g:Bool) L w=>L=[(0,H a0),(5,H a0),(6,N g)]/\St [] f w []) (F.Iv a0) ?_ ?_
 rotate_left
 ·intro d
  refine R<|V 2 Z<|Q ?_
  apply gl9 Z h<;>intro h
  ·exact gl5<|aA (d (a0 == 1) _ _ ⟨Z,a⟩ h) Z
  refine R<|V 2 Z<|Q ?_
  apply gl9 Z h<;>intro h
  ·exact gl5<|aA (d (a0 == 2) _ _ ⟨Z,a⟩ h) Z
  exact am<|V 2 Z<|Q<|aA (d (a0 == 3) _ _ ⟨Z,a⟩ h) Z
 rintro j L w c h
 try dsimp only at c
 obtain⟨rfl,a⟩:=c
 unfold F.Iv at h
 apply gl9 Z h<;>intro h
 ·refine R<|V 6 Z<|Q<|ar<|aZ<|aM ?_
  cases h
  exact dK Z Z Z Z ⟨Z,a⟩
 refine aT (r:=r) (fun (g:Bool) L w=>L=[(0,H a0),(5,H a0),(13,N g)]/\St [] f w []) (F.IO a0) ?_ ?_
 rotate_left
 ·intro e
  refine R<|V 2 Z<|Q ?_
  apply gl9 Z h<;>intro h
  ·exact gl5<|aA (e (a0 == 4) _ _ ⟨Z,a⟩ h) Z
  refine R<|V 2 Z<|Q ?_
  apply gl9 Z h<;>intro h
  ·exact gl5<|aA (e (a0 == 5) _ _ ⟨Z,a⟩ h) Z
  exact am<|V 2 Z<|Q<|aA (e (a0 == 6) _ _ ⟨Z,a⟩ h) Z
 rintro k L w c h
 try dsimp only at c
 obtain⟨rfl,a⟩:=c
 unfold F.IO at h
 apply gl9 Z h<;>intro h
 ·refine R<|V 6 Z<|Q<|ar<|aZ<|aM ?_
  cases h
  exact dK Z Z Z Z ⟨Z,a⟩
 refine aT (r:=r) (fun (g:Bool) L w=>L=[(0,H a0),(5,H a0),(20,N g)]/\St [] f w []) (F.Je a0) ?_ ?_
 rotate_left
 ·intro b
  refine R<|V 2 Z<|Q ?_
  apply gl9 Z h<;>intro h
  ·exact gl5<|aA (b (a0 == 7) _ _ ⟨Z,a⟩ h) Z
  refine R<|V 2 Z<|Q ?_
  apply gl9 Z h<;>intro h
  ·exact gl5<|aA (b (a0 == 8) _ _ ⟨Z,a⟩ h) Z
  exact am<|V 2 Z<|Q<|aA (b (a0 == 9) _ _ ⟨Z,a⟩ h) Z
 rintro i L w c h
 try dsimp only at c
 obtain⟨rfl,a⟩:=c
 unfold F.Je at h
 apply gl9 Z h<;>intro h
 ·refine R<|V 6 Z<|Q<|ar<|aZ<|aM ?_
  cases h
  exact dK Z Z Z Z ⟨Z,a⟩
 refine R<|V 2 Z<|Q ?_
 apply gl9 Z h<;>intro h
 ·refine R<|V 3 Z<|Q<|ar<|aZ<|aM ?_
  cases h
  exact dK Z Z Z Z ⟨Z,a⟩
 refine R<|V 2 Z<|Q ?_
 apply gl9 Z h<;>intro h
 ·refine R<|V 3 Z<|Q<|ar<|aZ<|aM ?_
  cases h
  exact dK Z Z Z Z ⟨Z,a⟩
 refine R<|V 2 Z<|Q ?_
 apply gl9 Z h<;>intro h
 ·refine R<|V 3 Z<|Q<|ar<|aZ<|aM ?_
  cases h
  exact dK Z Z Z Z ⟨Z,a⟩
 refine cg<|aF<|al<|R<|V 3 Z<|Q<|ar ?_
 cases h
 exact dK Z Z Z Z ⟨Z,a⟩
theorem zy {e:World} {a1:Q1} {c:Value} (a0:Int) (a2:Q1) {r:Q1×Int}
  (h:F.KT a0 a1 a2=some r) (p:TB [] e) (f:RP [] e e8 c a1):Calls Tryz.prog 18 #[H a0,c,vS a2] e (Ret fun v w=>∃u0:Value,v=.tuple #[u0,H r.2]/\St [] e w [U e8 u0 r.1]):=by
 refine ax 36 Tryz.func18 Z Z Z<|have a:=St.k e;ay [(0,H a0),(1,c),(2,vS a2)] Z ?_
 unfold F.KT at h
 refine R<|V 2 Z<|gl2<|V 1 Z<|M h fun d j h=>aR a Z (ng a0 j ) Z fun w a=>V 7 Z<|gl1<|av<|R<|V 3 Z<|Q ?_
 apply gl9 Z h<;>intro h
 ·refine R<|V 2 Z<|Q<|ar<|aZ<|aM ?_
  cases h
  exact bH Z Z Z ⟨Q3,Z,(a.nil e8).d [0] Z Z⟩
 refine aT (r:=r) (fun (g:Bool) L w=>L=[(1,c),(2,vS a2),(9,H d.2.1),(20,N g)]/\St [] e w []) (F.KJ a1 a2 d) ?_ ?_
 rotate_left
 ·intro i
  refine am<|V 1 Z<|O (aD u25 Z (f.b a.fr)) Z<|V 1 Z<|M h fun m k h=>aR a Z (eJ d.2.1 k ) Z fun w a=>V 2 Z ?_
  cases b:(decide ((a1.length:Int)<m))
  case true=>
   have h:=bD h b
   try simp only[b]
   exact V 5 Z<|Q<|aA (i true _ _ ⟨Z,a⟩ h) Z
  case false=>
   have h:=bE h b
   try simp only[b]
   exact V 1 Z<|aI (t:=26) Z Z (aD u25 Z (f.b a.fr)) Z<|V 3 Z<|Q<|aA (i (decide ((4096:Int)<(a1.length:Int))) _ _ ⟨Z,a⟩ h) Z
 rintro q L w n h
 try dsimp only at n
 obtain⟨rfl,a⟩:=n
 unfold F.KJ at h
 apply gl9 Z h<;>intro h
 ·refine R<|V 2 Z<|Q<|ar<|aZ<|aM ?_
  cases h
  exact bH Z Z Z ⟨Q3,Z,(a.nil e8).d [0] Z Z⟩
 refine cg<|aF<|al<|R<|V 3 Z<|bm (n8 Tryz.underlying9 u25 Tryz.underlying5 Z a) Z fun s w a=>M h fun u l h=>aO a Z (qw d.2.1 l (p.b a.fr) (f.b a.fr).rp (a.rro 0 Z).rp) Z fun o w a=>V 2 Z<|Q<|ar ?_
 cases h
 exact bH Z Z Z ⟨o,Z,a.d [0] Z Z⟩
theorem qL {l:World} {p q s u x:Q1} {c d e f i:Value} (a0 b j:Int) {r:Bool}
  (h:F.IP a0 b j p q s u x=some r) (C:RP [] l e8 c p) (D:RP [] l e8 d q) (E:RP [] l e8 e s) (G:RP [] l e8 f u) (S:RP [] l e8 i x):Calls Tryz.prog 13 #[H a0,.agg #[H b,H j,c,d,e,f,i]] l (Ret fun v w=>v=N r/\St [] l w []):=by
 refine ax 48 Tryz.func13 Z Z Z<|have a:=St.k l;ay [(0,H a0),(1,.agg #[H b,H j,c,d,e,f,i])] Z ?_
 unfold F.IP at h
 refine R<|bl (cz (cs:=[H b,H j,c,d,e,f,i]) Z Z a) Z fun z w a=>V 1 Z<|gl2<|V 1 Z<|M h fun o A h=>aR a Z (ng a0 A ) Z fun w a=>V 7 Z<|gl1<|R<|V 1 Z<|Q<|av<|R<|V 2 Z<|Q ?_
 apply gl9 Z h<;>intro h
 ·refine R<|O (ak (k:=0) u27 Z Z lJ Z) Z<|O (ao u23 Z Z (a.q 0 Z 0)) Z<|V 2 Z<|Q<|ar<|aZ<|aM ?_
  cases h
  exact au Z Z ⟨Z,a.d [] Z Z⟩
 refine aT (r:=r) (fun (g:Bool) L w=>L=[(3,P z 0),(7,H o.2.2),(14,H o.1),(20,N g)]/\St [] l w [Y z [H b,H j,c,d,e,f,i]]) (F.Mb b j o) ?_ ?_
 rotate_left
 ·intro y
  refine R<|V 2 Z<|Q ?_
  apply gl9 Z h<;>intro h
  ·exact gl5<|aA (y (o.1 == 2) _ _ ⟨Z,a⟩ h) Z
  exact am<|V 2 Z<|Q<|aA (y (o.1 == 3) _ _ ⟨Z,a⟩ h) Z
 rintro T L w B h
 try dsimp only at B
 obtain⟨rfl,a⟩:=B
 unfold F.Mb at h
 apply gl9 Z h<;>intro h
 ·refine R<|O (ak (k:=0) u27 Z Z lJ Z) Z<|O (ao u23 Z Z (a.q 0 Z 0)) Z<|V 2 Z<|Q<|ar<|aZ<|aM ?_
  cases h
  exact au Z Z ⟨Z,a.d [] Z Z⟩
 refine R<|V 2 Z<|Q ?_
 apply gl9 Z h<;>intro h
 ·refine R<|O (ak (k:=0) u27 Z Z lJ Z) Z<|O (ao u23 Z Z (a.q 0 Z 0)) Z<|V 2 Z ?_
  cases m:(b == 3)
  case true=>
   have h:=bD h m
   try simp only[m]
   refine aI (t:=31) Z Z (ak (k:=1) u27 Z Z m0 Z) Z<|aI (t:=31) Z Z (ao u24 Z Z (a.q 0 Z 1)) Z<|V 4 Z<|Q<|ar<|aZ<|aM ?_
   cases h
   exact au Z Z ⟨Z,a.d [] Z Z⟩
  case false=>
   have h:=bE h m
   try simp only[m]
   refine V 6 Z<|Q<|ar<|aZ<|aM ?_
   cases h
   exact au Z Z ⟨Z,a.d [] Z Z⟩
 refine R<|V 2 Z<|Q ?_
 apply gl9 Z h<;>intro h
 ·refine R<|O (ak (k:=0) u27 Z Z lJ Z) Z<|O (ao u23 Z Z (a.q 0 Z 0)) Z<|V 2 Z ?_
  cases n:(b == 4)
  case true=>
   have h:=bD h n
   try simp only[n]
   refine aI (t:=42) Z Z (ak (k:=1) u27 Z Z m0 Z) Z<|aI (t:=42) Z Z (ao u24 Z Z (a.q 0 Z 1)) Z<|V 4 Z<|Q<|ar<|aZ<|aM ?_
   cases h
   exact au Z Z ⟨Z,a.d [] Z Z⟩
  case false=>
   have h:=bE h n
   try simp only[n]
   refine V 6 Z<|Q<|ar<|aZ<|aM ?_
   cases h
   exact au Z Z ⟨Z,a.d [] Z Z⟩
 refine cg<|aF<|al<|R<|V 1 Z<|Q<|ar ?_
 cases h
 exact au Z Z ⟨Z,a.d [] Z Z⟩
theorem pv {p:World} {y D E G S a3:Q1} {c d e f j T:Value} (a0 l m:Int) (a2:Q1) {r:Int}
  (h:F.Ht a0 l m y D E G S a2 a3=some r) (hT:TB [] p) (q:RP [] p e8 c y) (s:RP [] p e8 d D) (u:RP [] p e8 e E) (x:RP [] p e8 f G) (z:RP [] p e8 j S) (C:RP [] p e8 T a3):Calls Tryz.prog 6 #[H a0,.agg #[H l,H m,c,d,e,f,j],vS a2,T] p (Ret fun v w=>v=H r/\St [] p w []):=by
 refine ax 92 Tryz.func6 Z Z Z<|have a:=St.k p;ay [(0,H a0),(1,.agg #[H l,H m,c,d,e,f,j]),(2,vS a2),(3,T)] Z ?_
 unfold F.Ht at h
 refine R<|bl (cz (cs:=[H l,H m,c,d,e,f,j]) Z Z a) Z fun ad w a=>V 1 Z<|gl2<|V 1 Z<|M h fun n aC h=>aR a Z (ng a0 aC ) Z fun w a=>V 7 Z<|gl1<|av<|R<|V 3 Z<|Q ?_
 apply gl9 Z h<;>intro h
 ·refine R<|V 1 Z<|Q<|ar<|aZ<|aM ?_
  cases h
  exact au Z Z ⟨Z,a.d [] Z Z⟩
 refine R<|V 1 Z<|O (bX (us:=[H l,H m,c,d,e,f,j]) u27 Z rQ Z (a.p 0 Z Z)) Z<|M h fun aX aG h=>aR a Z (qL a0 l m aG (q.b a.fr).rp (s.b a.fr).rp (u.b a.fr).rp (x.b a.fr).rp (z.b a.fr).rp) Z fun w a=>V 2 Z<|Q ?_
 apply gl9 Z h<;>intro h
 ·refine R<|V 1 Z<|Q<|ar<|aZ<|aM ?_
  cases h
  exact au Z Z ⟨Z,a.d [] Z Z⟩
 refine aT (r:=r) (fun (g:Bool) L w=>L=[(2,vS a2),(3,T),(5,P ad 0),(9,H n.1),(10,H n.2.1),(11,H n.2.2),(28,N g)]/\St [] p w [Y ad [H l,H m,c,d,e,f,j]]) (F.Ho y D E G S a2 a3 n) ?_ ?_
 rotate_left
 ·intro A
  refine R<|O (bX (us:=[H l,H m,c,d,e,f,j]) u27 Z rQ Z (a.p 0 Z Z)) Z<|M h fun aP aH h=>aR a Z (ov l m aH (hT.b a.fr) (q.b a.fr).rp (s.b a.fr).rp (u.b a.fr).rp (x.b a.fr).rp (z.b a.fr).rp) Z fun w a=>V 2 Z<|Q ?_
  apply gl9 Z h<;>intro h
  ·exact gl5<|aA (A (aP != 0) _ _ ⟨Z,a⟩ h) Z
  refine aQ (fun w'=>St [] p w' [Y ad [H l,H m,c,d,e,f,j]]) (fun i=>!([7].contains i)) bL (fun _ _ _ hf=>hf.2) (fun _ _ hf=>hf) (by kernel_rfl)<|have a:=a.drew;show lxE _ _ _ _ _ _ _ [0,1,2,3,4,5,6,7,8,9,10] _ _ from an 3 Z a ?_
  cases B:(n.1 == 1)
  case true=>
   have h:=bD h B
   try simp only[B]
   refine bY (t:=34) a Z Z Z Z (fun w hF=>ak (k:=2) u27 Z Z c7 Z) Z<|bY (t:=34) a Z Z Z Z (fun w hF=>ao u25 Z Z (hF.q 0 Z 2)) Z<|bY (t:=34) a Z Z Z Z (fun w hF=>aD u25 Z (q.b hF.fr)) Z<|bY (t:=34) a Z Z Z Z (fun w hF=>ee Z) Z<|M h fun aB aJ h=>iN (t:=34) a Z Z Z Z (by kernel_rfl) Z (eJ n.2.1 aJ ) Z ?_
   rintro _ w ⟨rfl,aS⟩
   have a:=a.e aS
   exact bY (t:=34) a Z Z Z Z (fun w hF=>aj Z Z (gB _ (y.length:Int) aB)) Z<|an 2 Z a<|a9 a<|al<|aA (A (decide ((y.length:Int)<aB)) _ _ ⟨Z,a⟩ h) Z
  case false=>
   have h:=bE h B
   try simp only[B]
   exact ba (b:=false) (t:=34) a Z Z Z Z Z Z<|ba (b:=false) (t:=34) a Z Z Z Z Z Z<|ba (b:=false) (t:=34) a Z Z Z Z Z Z<|ba (b:=false) (t:=34) a Z Z Z Z Z Z<|ep (b:=false) (t:=34) a Z Z Z Z Z Z<|ba (b:=false) (t:=34) a Z Z Z Z Z Z<|an 2 Z a<|a9 a<|al<|aA (A false _ _ ⟨Z,a⟩ h) Z
 rintro aY L w hJ h
 try dsimp only at hJ
 obtain⟨rfl,a⟩:=hJ
 unfold F.Ho at h
 apply gl9 Z h<;>intro h
 ·refine R<|V 1 Z<|Q<|ar<|aZ<|aM ?_
  cases h
  exact au Z Z ⟨Z,a.d [] Z Z⟩
 refine cg<|aF<|al<|R<|V 1 Z<|bm (n8 Tryz.underlying9 u25 Tryz.underlying5 Z a) Z fun aU w a=>V 1 Z<|gl2<|V 1 Z<|Q ?_
 refine aT (r:=r) (fun (g:Int) L w=>L=[(13,H g)]/\St [] p w []) (F.Hk) ?_ ?_
 rotate_left
 ·intro o
  refine R<|V 1 Z<|Q<|av<|R<|V 2 Z<|Q ?_
  apply gl9 Z h<;>intro h
  ·refine R<|V 1 Z<|O (ak (k:=2) u27 Z Z c7 Z) Z<|O (ao u25 Z Z (a.q 1 Z 2)) Z<|V 2 Z<|M h fun aV ah h=>aR a Z (oz n.2.1 ah (hT.b a.fr) (q.b a.fr).rp (a.rro 0 Z).rp (C.b a.fr).rp) Z fun w a=>V 1 Z<|Q ?_
   apply gl9 Z h<;>intro h
   ·exact am<|V 1 Z<|aE<|aF<|al<|aA (o 91 _ _ ⟨Z,(a.d [] Z Z)⟩ h) Z
   exact cg<|aF<|al<|aA (o 0 _ _ ⟨Z,(a.d [] Z Z)⟩ h) Z
  refine R<|V 2 Z<|Q ?_
  apply gl9 Z h<;>intro h
  ·exact am<|V 1 Z<|O (ak (k:=3) u27 Z Z c7 Z) Z<|O (ao u25 Z Z (a.q 1 Z 3)) Z<|O (ak (k:=4) u27 Z Z c7 Z) Z<|O (ao u25 Z Z (a.q 1 Z 4)) Z<|V 2 Z<|M h fun aK J h=>aR a Z (nj n.2.1 J (hT.b a.fr) (s.b a.fr).rp (u.b a.fr).rp (a.rro 0 Z).rp (C.b a.fr).rp) Z fun w a=>V 1 Z<|aE<|aF<|al<|aA (o aK _ _ ⟨Z,(a.d [] Z Z)⟩ h) Z
  refine R<|V 2 Z<|Q ?_
  apply gl9 Z h<;>intro h
  ·exact am<|V 1 Z<|O (ak (k:=3) u27 Z Z c7 Z) Z<|O (ao u25 Z Z (a.q 1 Z 3)) Z<|O (ak (k:=4) u27 Z Z c7 Z) Z<|O (ao u25 Z Z (a.q 1 Z 4)) Z<|V 2 Z<|M h fun aL ap h=>aR a Z (nD n.2.1 ap (hT.b a.fr) (s.b a.fr).rp (u.b a.fr).rp (a.rro 0 Z).rp (C.b a.fr).rp) Z fun w a=>V 1 Z<|aE<|aF<|al<|aA (o aL _ _ ⟨Z,(a.d [] Z Z)⟩ h) Z
  refine R<|V 2 Z<|Q ?_
  apply gl9 Z h<;>intro h
  ·exact am<|V 2 Z<|O (ak (k:=5) u27 Z Z c7 Z) Z<|O (ao u25 Z Z (a.q 1 Z 5)) Z<|O (ak (k:=6) u27 Z Z c7 Z) Z<|O (ao u25 Z Z (a.q 1 Z 6)) Z<|V 2 Z<|M h fun aN aq h=>aR a Z (lU n.2.1 n.2.2 aq (hT.b a.fr) (x.b a.fr).rp (z.b a.fr).rp (a.rro 0 Z).rp (C.b a.fr).rp) Z fun w a=>V 1 Z<|aE<|aF<|al<|aA (o aN _ _ ⟨Z,(a.d [] Z Z)⟩ h) Z
  exact am<|O (ak (k:=5) u27 Z Z c7 Z) Z<|O (ao u25 Z Z (a.q 1 Z 5)) Z<|V 2 Z<|M h fun aO aw h=>aR a Z (py  aw (hT.b a.fr) (x.b a.fr).rp (a.rro 0 Z).rp (C.b a.fr).rp) Z fun w a=>V 1 Z<|aE<|aF<|al<|aA (o aO _ _ ⟨Z,(a.d [] Z Z)⟩ h) Z
 rintro aW L w hJ h
 try dsimp only at hJ
 obtain⟨rfl,a⟩:=hJ
 unfold F.Hk at h
 refine az<|R<|V 2 Z<|Q ?_
 apply gl9 Z h<;>intro h
 ·refine R<|V 1 Z<|gl8 ?_
  cases h
  exact au Z Z ⟨Z,a⟩
 refine gl6<|V 1 Z<|Q<|ar ?_
 cases h
 exact au Z Z ⟨Z,a⟩
end Go.Proofs
