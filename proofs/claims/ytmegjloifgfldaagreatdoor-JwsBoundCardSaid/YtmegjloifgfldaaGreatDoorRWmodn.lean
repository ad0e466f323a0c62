import Derived.Test.YtmegjloifgfldaaGreatDoorRW0
import Derived.Test.YtmegjloifgfldaaGreatDoorGkFman
import Derived.Test.YtmegjloifgfldaaGreatDoorRWnatb
set_option linter.unusedVariables false
set_option linter.unusedSimpArgs false
set_option linter.unusedSectionVars false
set_option maxRecDepth 4000
namespace Go.Proofs
open Go Go.RowKit Go.Gk
open Go.Gk renaming aa -> V, af -> M, ag -> O, ai -> J, e32 -> X, gl3 -> Q, gl4 -> R, own -> U, vI -> H
open Nat renaming le_of_ble_eq_true -> W
open Go.Gk.Rds renaming cons -> I
theorem wR {b:World} {a0:Q0} {a:Value} {r:Int}
  (h:F.La a0=some r) (e:RP [] b X a a0):Calls Tryz.prog 114 #[a] b (Ret fun v w=>v=H r/\St [] b w []):=by
 refine ax 7 Tryz.func114 Z Z Z<|have c:=St.k b;ay [(0,a)] Z ?_
 unfold F.La at h
 refine R<|V 1 Z<|gl2<|V 1 Z<|M h fun f d h=>aR c Z (dP  d (e.b c.fr).rp) Z fun w c=>V 1 Z<|O (aj Z Z (dM _ (wI (f+31)) 32 (by decide))) Z<|V 1 Z<|Q<|ar ?_
 cases h
 exact au Z Z ⟨Z,c⟩
theorem gA {g:World} {a0:List Q0} {b:Value} {s0:List SV} {r:Int}
  (h:F.G8 a0=some r) (c:RP [] g eV b s0) (hl0:ip [] g X s0 a0):Calls Tryz.prog 63 #[b] g (Ret fun v w=>v=H r/\St [] g w []):=by
 refine ax 23 Tryz.func63 Z Z Z<|have a:=St.k g;ay [(0,b)] Z ?_
 unfold F.G8 at h
 refine R<|V 1 Z<|gl1<|R<|V 1 Z<|O (tM u165 Z (c.b a.fr) hl0.len) Z<|V 1 Z<|Q<|av<|ay [(0,b),(5,b),(6,H (a0.length:Int)),(7,H 0)] Z ?_
 refine bg (F.HW a0) (fun (s:Int) L w=>L=[(0,b),(5,b),(6,H (a0.length:Int)),(7,H s)]/\St [] g w []) ?_ 0 ⟨Z,a⟩ h
 rintro u p L w z q l h e
 try dsimp only at q
 obtain⟨rfl,a⟩:=q
 unfold F.HW at h
 refine R<|V 1 Z<|gl1 ?_
 apply gl9 Z h<;>intro h
 ·refine gl5<|az<|av<|R<|M h fun A m h=>?_
  obtain⟨x,f,j⟩:=hl0.get m
  refine O (bh u165 qe Z Z (c.b a.fr) f) Z<|O (aW u58 Z Z (c.b a.fr) f Z) Z<|V 1 Z<|gl2<|V 1 Z<|M h fun B n h=>aR a Z (wR  n (j.b a.fr).rp) Z fun w a=>V 1 Z<|Q ?_
  apply gl9 Z h<;>intro h
  ·refine R<|V 1 Z<|Q<|ar<|aZ<|aM<|aM<|have h:=aS h e;aZ<|aM ?_
   cases h
   exact au Z Z ⟨Z,a⟩
  exact cg<|aF<|al<|am<|V 2 Z<|aE<|bn (br (l (wI (p+1)) _ _ ⟨Z,a⟩ (aX h e)) Z)
 refine a7<|aB<|aB<|have h:=aS h e;a8<|al<|az<|R<|V 2 Z<|O (tM u165 Z (c.b a.fr) hl0.len) Z<|V 1 Z<|M h fun C o h=>?_
 obtain⟨t,d,i⟩:=hl0.get o
 refine O (bh u165 qe Z Z (c.b a.fr) d) Z<|O (aW u58 Z Z (c.b a.fr) d Z) Z<|M h fun y k h=>aR a Z (dP  k (i.b a.fr).rp) Z fun w a=>V 1 Z<|Q ?_
 apply gl9 Z h<;>intro h
 ·refine R<|V 1 Z<|gl8 ?_
  cases h
  exact au Z Z ⟨Z,a⟩
 refine gl6<|V 1 Z<|Q<|ar ?_
 cases h
 exact au Z Z ⟨Z,a⟩
theorem dY {a:World} {a0 a1:Q0} {b c:Value} {r:Q0}
  (h:F.GT a0 a1=some r) (f:RP [] a X b a0) (g:RP [] a X c a1):Calls Tryz.prog 64 #[b,c] a (Ret fun v w=>St [] a w [U X v r]):=by
 refine ax 16 Tryz.func64 Z Z Z<|have d:=St.k a;ay [(0,b),(1,c)] Z ?_
 unfold F.GT at h
 refine R<|V 1 Z<|gl2<|V 2 Z<|M h fun i e h=>bz d Z (kE  e (f.b d.fr).rp (g.b d.fr).rp) Z fun j k w d=>V 7 Z<|gl2<|V 2 Z<|Q<|ar ?_
 cases h
 exact au Z Z (d.d [1] Z Z)
theorem mE {f:World} {a0 a1 a2:Q0} {b c d:Value} {r:Q0×Int}
  (h:F.Jh a0 a1 a2=some r) (g:RP [] f X b a0) (i:RP [] f X c a1) (j:RP [] f X d a2):Calls Tryz.prog 39 #[b,c,d] f (Ret fun v w=>∃u0:Value,v=.tuple #[u0,H r.2]/\St [] f w [U X u0 r.1]):=by
 refine ax 22 Tryz.func39 Z Z Z<|have a:=St.k f;ay [(0,b),(1,c),(2,d)] Z ?_
 unfold F.Jh at h
 refine R<|V 2 Z<|gl1<|R<|V 3 Z<|bm (bJ (e:=eV) (l:=([SV.of b,SV.of c,SV.of d]:List SV)) (vs:=[b,c,d]) u165 qe Z Z Z (cd (g.b a.fr).sv (cd (i.b a.fr).sv (cd (j.b a.fr).sv Z))) (by decide) (by decide) a) Z fun p w a=>M h fun q k h=>aR a Z (gA  k (a.ro 0 Z).rp ⟨(g.b a.fr).svrp,(i.b a.fr).svrp,(j.b a.fr).svrp,K⟩) Z fun w a=>V 1 Z<|gl2<|V 2 Z<|Q ?_
 apply gl9 Z h<;>intro h
 ·refine R<|V 3 Z<|gl8 ?_
  cases h
  exact bH Z Z Z ⟨Q3,Z,(a.nil X).d [0] Z Z⟩
 refine gl6<|V 2 Z<|M h fun s m h=>aO a Z (nM  m (g.b a.fr).rp (i.b a.fr).rp) Z fun t w a=>V 1 Z<|M h fun u n h=>aO a Z (dY  n (a.ro 0 Z).rp (j.b a.fr).rp) Z fun o w a=>V 2 Z<|Q<|ar ?_
 cases h
 exact bH Z Z Z ⟨o,Z,a.d [0] Z Z⟩
theorem kC {b:World} {a0 a1 a2:Q0} {e f i:Value} {r:Q0}
  (h:F.I8 a0 a1 a2=some r) (j:RP [] b X e a0) (k:RP [] b X f a1) (o:RP [] b X i a2):Calls Tryz.prog 132 #[e,f,i] b (Ret fun v w=>St [] b w [U X v r]):=by
 refine ax 26 Tryz.func132 Z Z Z<|have a:=St.k b;ay [(0,e),(1,f),(2,i)] Z ?_
 unfold F.I8 at h
 refine R<|V 1 Z<|gl2<|V 2 Z<|M h fun p l h=>cV a Z (lB  l (j.b a.fr).rp (k.b a.fr).rp) Z fun q w a=>V 5 Z<|Q ?_
 refine aT (r:=r) (fun (g:Q0) L w=>∃(c:Value),L=[(7,c)]/\St [] b w [U X c g]) (F.LM) ?_ ?_
 rotate_left
 ·intro d
  refine R<|V 2 Z<|Q ?_
  apply gl9 Z h<;>intro h
  ·exact am<|V 2 Z<|M h fun y m h=>aO a Z (k8  m (j.b a.fr).rp (o.b a.fr).rp) Z fun z w a=>V 1 Z<|M h fun s n h=>cV a Z (lB  n (a.ro 0 Z).rp (k.b a.fr).rp) Z fun t w a=>V 4 Z<|Q<|aA (d s.1 _ _ ⟨t,Z,(a.d [0] Z Z)⟩ h) Z
  exact gl5<|aA (d p.1 _ _ ⟨q,Z,a⟩ h) Z
 rintro x L w u h
 try dsimp only at u
 obtain⟨c,rfl,a⟩:=u
 unfold F.LM at h
 refine R<|V 2 Z<|Q<|ar ?_
 cases h
 exact au Z Z (a.d [0] Z Z)
theorem yp {g:World} {a0 a1 a2:Q0} {b c d:Value} {r:Q0×Int}
  (h:F.LL a0 a1 a2=some r) (i:RP [] g X b a0) (j:RP [] g X c a1) (f:RP [] g X d a2):Calls Tryz.prog 97 #[b,c,d] g (Ret fun v w=>∃u0:Value,v=.tuple #[u0,H r.2]/\St [] g w [U X u0 r.1]):=by
 refine ax 25 Tryz.func97 Z Z Z<|have a:=St.k g;ay [(0,b),(1,c),(2,d)] Z ?_
 unfold F.LL at h
 refine R<|V 2 Z<|gl1<|R<|V 3 Z<|bm (bJ (e:=eV) (l:=([SV.of b,SV.of c,SV.of d]:List SV)) (vs:=[b,c,d]) u165 qe Z Z Z (cd (i.b a.fr).sv (cd (j.b a.fr).sv (cd (f.b a.fr).sv Z))) (by decide) (by decide) a) Z fun s w a=>M h fun t m h=>aR a Z (gA  m (a.ro 0 Z).rp ⟨(i.b a.fr).svrp,(j.b a.fr).svrp,(f.b a.fr).svrp,K⟩) Z fun w a=>V 1 Z<|gl2<|V 2 Z<|Q ?_
 apply gl9 Z h<;>intro h
 ·refine R<|V 3 Z<|gl8 ?_
  cases h
  exact bH Z Z Z ⟨Q3,Z,(a.nil X).d [0] Z Z⟩
 refine gl6<|V 2 Z<|M h fun u n h=>aO a Z (dY  n (i.b a.fr).rp (f.b a.fr).rp) Z fun x w a=>V 2 Z<|M h fun y o h=>aO a Z (dY  o (j.b a.fr).rp (f.b a.fr).rp) Z fun z w a=>V 1 Z<|M h fun q k h=>aO a Z (kC  k (a.ro 1 Z).rp (a.ro 0 Z).rp (f.b a.fr).rp) Z fun p w a=>V 2 Z<|Q<|ar ?_
 cases h
 exact bH Z Z Z ⟨p,Z,a.d [0] Z Z⟩
theorem x9 {f:World} {a0 a1 a2:Q0} {b c d:Value} {r:Q0×Int}
  (h:F.Lq a0 a1 a2=some r) (g:RP [] f X b a0) (i:RP [] f X c a1) (j:RP [] f X d a2):Calls Tryz.prog 152 #[b,c,d] f (Ret fun v w=>∃u0:Value,v=.tuple #[u0,H r.2]/\St [] f w [U X u0 r.1]):=by
 refine ax 22 Tryz.func152 Z Z Z<|have a:=St.k f;ay [(0,b),(1,c),(2,d)] Z ?_
 unfold F.Lq at h
 refine R<|V 2 Z<|gl1<|R<|V 3 Z<|bm (bJ (e:=eV) (l:=([SV.of b,SV.of c,SV.of d]:List SV)) (vs:=[b,c,d]) u165 qe Z Z Z (cd (g.b a.fr).sv (cd (i.b a.fr).sv (cd (j.b a.fr).sv Z))) (by decide) (by decide) a) Z fun p w a=>M h fun q k h=>aR a Z (gA  k (a.ro 0 Z).rp ⟨(g.b a.fr).svrp,(i.b a.fr).svrp,(j.b a.fr).svrp,K⟩) Z fun w a=>V 1 Z<|gl2<|V 2 Z<|Q ?_
 apply gl9 Z h<;>intro h
 ·refine R<|V 3 Z<|gl8 ?_
  cases h
  exact bH Z Z Z ⟨Q3,Z,(a.nil X).d [0] Z Z⟩
 refine gl6<|V 2 Z<|M h fun s m h=>aO a Z (k8  m (g.b a.fr).rp (i.b a.fr).rp) Z fun t w a=>V 1 Z<|M h fun u n h=>aO a Z (dY  n (a.ro 0 Z).rp (j.b a.fr).rp) Z fun o w a=>V 2 Z<|Q<|ar ?_
 cases h
 exact bH Z Z Z ⟨o,Z,a.d [0] Z Z⟩
theorem pr {b:World} {a0 a1:Q0} {c d:Value} {r:Q0}
  (h:F.J7 a0 a1=some r) (e:RP [] b X c a0) (k:RP [] b X d a1):Calls Tryz.prog 130 #[c,d] b (Ret fun v w=>St [] b w [U X v r]):=by
 refine ax 12 Tryz.func130 Z Z Z<|have a:=St.k b;ay [(0,c),(1,d)] Z ?_
 unfold F.J7 at h
 refine R<|V 1 Z<|gl1<|R<|V 1 Z<|M h fun p i h=>aR a Z (f9 0 i (e.b a.fr).rp) Z fun w a=>Q ?_
 apply gl9 Z h<;>intro h
 ·refine am<|V 2 Z<|M h fun q j h=>aO a Z (k8  j (e.b a.fr).rp (k.b a.fr).rp) Z fun s w a=>V 1 Z<|gl2<|V 1 Z<|M h fun l f h=>aO a Z (jG 1 f (a.ro 0 Z).rp) Z fun m w a=>V 1 Z<|Q<|ar ?_
  cases h
  exact au Z Z (a.d [0] Z Z)
 refine gl6<|V 1 Z<|M h fun n g h=>aO a Z (jG 1 g (e.b a.fr).rp) Z fun o w a=>V 1 Z<|Q<|ar ?_
 cases h
 exact au Z Z (a.d [0] Z Z)
theorem y8 {m:World} {a0 a1:Q0} {p c:Value} {T:Q2} {r:Q0×Q0}
  (h:F.Id a0 a1=some r) (hTT:TOk [] T m) (a3:RP T m X p a0) (a4:RP T m X c a1):Calls Tryz.prog 80 #[p,c] m (Ret fun v w=>∃u0:Value,∃u1:Value,v=.tuple #[u0,u1]/\St [] m w []/\Rds T w [red X u1 r.2,red X u0 r.1]):=by
 refine ax 59 Tryz.func80 Z Z Z<|have a:=St.k m;have d:=Fz.k (S:=[]) (w0:=m);?_
 have hA0:Rds T m [red X c a1,red X p a0]:=I (RP.h (W Z) a4) (I (RP.h (W Z) a3) (Rds.nil))
 have b:=hA0.all
 have f:=hA0.off Z
 refine ay [(0,p),(1,c)] Z ?_
 unfold F.Id at h
 refine R<|V 2 Z<|gl2<|V 4 Z<|gl2<|bm (bJ (e:=X) (l:=([1]:Q0)) (vs:=[v32 1]) u58 aN Z Z Z Z (by decide) (by decide) a) Z fun G w a=>bm (uD (e:=X) u58 aN a) Z fun ab w a=>V 2 Z<|gl1<|av ?_
 replace a:=a.pick (os':=[U X ab [],U X G ([1]:Q0)]++[]) [0,1] (by decide) rfl
 obtain⟨bD,bf,d,b,f,a⟩:=d.frzT hTT b f a
 refine ay [(1,c),(6,p),(7,c),(8,G),(9,ab)] Z ?_
 refine bg (F.IU a1) (fun (s:Q0×Q0×Q0×Q0) L w=>∃(n:Value) (g:Value) (o:Value) (i:Value),L=[(1,c),(6,n),(7,g),(8,o),(9,i)]/\SfT [] T m w [red X i s.2.2.2,red X o s.2.2.1,red X g s.2.1,red X n s.1,red X c a1] []) ?_ (a0,a1,([1]:Q0),[]) ⟨p,c,G,ab,Z,(SfT.mk' d (b.pick [3,2,1,0,1] Z) (f.pick [3,2,1,0,1] Z) a)⟩ h
 rintro bh ⟨a5,y,aY,z⟩ L w bi x C h q
 try dsimp only at x
 obtain⟨n,g,o,i,rfl,⟨bE,bj,d,b,f,a⟩⟩:=x
 unfold F.IU at h
 refine az<|R<|V 1 Z<|M h fun bk aD h=>aR a Z (dP  aD ((b.rp 1 Z).b a.fr).rp) Z fun w a=>V 1 Z<|Q ?_
 apply gl9 Z h<;>intro h
 ·refine gl5<|av<|az<|av<|ay [(1,c),(6,n),(7,g),(8,o),(9,i)] Z ?_
  refine bg (F.Kw a1 y z) (fun (s:Q0×Q0) L w=>∃(j:Value) (k:Value),L=[(1,c),(6,j),(7,g),(8,k),(9,i)]/\SfT [] T m w [red X i z,red X k s.2,red X g y,red X j s.1,red X c a1] []) ?_ (a5,aY) ⟨n,o,Z,(SfT.mk' d (b.pick [4,3,2,1,0] Z) (f.pick [4,3,2,1,0] Z) a)⟩ h
  rintro bl ⟨A,B⟩ L w bo x aG h D
  try dsimp only at x
  obtain⟨j,k,rfl,⟨bp,a9,d,b,f,a⟩⟩:=x
  unfold F.Kw at h
  refine az<|R<|V 1 Z<|M h fun bq aH h=>aR a Z (f9 0 aH ((b.rp 1 Z).b a.fr).rp) Z fun w a=>V 1 Z<|Q ?_
  apply gl9 Z h<;>intro h
  ·refine gl5<|av<|am<|V 1 Z<|M h fun ac aI h=>aO a Z (jG 1 aI ((b.rp 1 Z).b a.fr).rp) Z fun ad w a=>V 2 Z<|M h fun ae aJ h=>aO a Z (pr  aJ ((b.rp 3 Z).b a.fr).rp ((b.rp 0 Z).b a.fr).rp) Z fun O w a=>V 2 Z<|aE<|aF ?_
   replace a:=a.pick (os':=[U X O ae,U X ad ac]++[]) [0,1] (by decide) rfl
   obtain⟨bs,ba,d,b,f,a⟩:=d.frzT hTT b f a
   exact bn (br (aG (ac,ae) _ _ ⟨ad,O,Z,(SfT.mk' d (b.pick [4,6,2,5,0] Z) (f.pick [4,6,2,5,0] Z) a)⟩ (aX h D)) Z)
  refine a7<|aB<|aB<|have h:=aS h D;a8<|al<|az<|av<|ay [(1,c),(6,j),(7,g),(8,k),(9,i)] Z ?_
  refine bg (F.JD a1 A B) (fun (s:Q0×Q0) L w=>∃(t:Value) (u:Value),L=[(1,c),(6,j),(7,t),(8,k),(9,u)]/\SfT [] T m w [red X u s.2,red X k B,red X t s.1,red X j A,red X c a1] []) ?_ (y,z) ⟨g,i,Z,(SfT.mk' d (b.pick [4,3,2,1,0] Z) (f.pick [4,3,2,1,0] Z) a)⟩ h
  rintro bt ⟨aZ,a2⟩ L w bu x aK h E
  try dsimp only at x
  obtain⟨t,u,rfl,⟨bv,bb,d,b,f,a⟩⟩:=x
  unfold F.JD at h
  refine az<|R<|V 1 Z<|M h fun bw aL h=>aR a Z (f9 0 aL ((b.rp 2 Z).b a.fr).rp) Z fun w a=>V 1 Z<|Q ?_
  apply gl9 Z h<;>intro h
  ·refine gl5<|av<|am<|V 1 Z<|M h fun ah aM h=>aO a Z (jG 1 aM ((b.rp 2 Z).b a.fr).rp) Z fun J w a=>V 2 Z<|M h fun aj aP h=>aO a Z (pr  aP ((b.rp 4 Z).b a.fr).rp ((b.rp 0 Z).b a.fr).rp) Z fun ak w a=>V 2 Z<|aE<|aF ?_
   replace a:=a.pick (os':=[U X ak aj,U X J ah]++[]) [0,1] (by decide) rfl
   obtain⟨bx,bc,d,b,f,a⟩:=d.frzT hTT b f a
   exact bn (br (aK (ah,aj) _ _ ⟨J,ak,Z,(SfT.mk' d (b.pick [6,3,5,1,0] Z) (f.pick [6,3,5,1,0] Z) a)⟩ (aX h E)) Z)
  refine a7<|aB<|aB<|have h:=aS h E;a8<|al<|R<|V 2 Z<|M h fun bz aQ h=>aR a Z (dx  aQ ((b.rp 1 Z).b a.fr).rp ((b.rp 2 Z).b a.fr).rp) Z fun w a=>V 1 Z<|Q ?_
  apply gl9 Z h<;>intro h
  ·refine R<|V 2 Z<|M h fun an aT h=>cV a Z (lB  aT ((b.rp 1 Z).b a.fr).rp ((b.rp 2 Z).b a.fr).rp) Z fun ao w a=>V 4 Z<|Q<|am<|V 3 Z<|M h fun ap aU h=>aO a Z (kC  aU ((b.rp 3 Z).b a.fr).rp ((b.rp 4 Z).b a.fr).rp ((b.rp 0 Z).b a.fr).rp) Z fun aq w a=>V 1 Z<|aE<|aF ?_
   replace a:=a.pick (os':=[U X aq ap,U X ao an.1]++[]) [0,1] (by decide) rfl
   obtain⟨bA,bd,d,b,f,a⟩:=d.frzT hTT b f a
   exact bn (br (C (an.1,aZ,ap,a2) _ _ ⟨ao,t,aq,u,Z,(SfT.mk' d (b.pick [4,6,2,5,0] Z) (f.pick [4,6,2,5,0] Z) a)⟩ (aX h q)) Z)
  refine R<|V 2 Z<|M h fun au aV h=>cV a Z (lB  aV ((b.rp 2 Z).b a.fr).rp ((b.rp 1 Z).b a.fr).rp) Z fun aw w a=>V 4 Z<|Q<|am<|V 3 Z<|M h fun aA aW h=>aO a Z (kC  aW ((b.rp 4 Z).b a.fr).rp ((b.rp 3 Z).b a.fr).rp ((b.rp 0 Z).b a.fr).rp) Z fun aC w a=>V 1 Z<|aE<|aF ?_
  replace a:=a.pick (os':=[U X aC aA,U X aw au.1]++[]) [0,1] (by decide) rfl
  obtain⟨bB,be,d,b,f,a⟩:=d.frzT hTT b f a
  exact bn (br (C (A,au.1,B,aA) _ _ ⟨j,aw,k,aC,Z,(SfT.mk' d (b.pick [6,3,5,1,0] Z) (f.pick [6,3,5,1,0] Z) a)⟩ (aX h q)) Z)
 refine a7<|aB<|aB<|have h:=aS h q;a8<|al<|R<|V 4 Z<|Q<|ar ?_
 cases h
 obtain⟨a6,hR⟩:=d.outT hTT b f a
 exact bH Z Z Z ⟨g,i,Z,a6,(hR.pick [4,2] Z)⟩
theorem qs {f:World} {a0 a1:Q0} {c d:Value} {r:Q0×Int}
  (h:F.HC a0 a1=some r) (s:RP [] f X c a0) (t:RP [] f X d a1):Calls Tryz.prog 38 #[c,d] f (Ret fun v w=>∃u0:Value,v=.tuple #[u0,H r.2]/\St [] f w [U X u0 r.1]):=by
 refine ax 40 Tryz.func38 Z Z Z<|have a:=St.k f;have g:=Fz.k (S:=[]) (w0:=f);?_
 have hTT:TOk [] [] f:=TOk.nil
 have b:Rds [] f [red X d a1,red X c a0]:=I (RP.h (W Z) t) (I (RP.h (W Z) s) (Rds.nil))
 have i:Off [] [red X d a1,red X c a0]:=Off.emp
 refine ay [(0,c),(1,d)] Z ?_
 unfold F.HC at h
 refine R<|V 2 Z<|Q<|yw 0 Z<|R<|V 2 Z<|gl1<|R<|V 2 Z<|bm (bJ (e:=eV) (l:=([SV.of c,SV.of d]:List SV)) (vs:=[c,d]) u165 qe Z Z Z (cd ((b.rp 0 Z).b a.fr).sv (cd ((b.rp 1 Z).b a.fr).sv Z)) (by decide) (by decide) a) Z fun u w a=>M h fun ab m h=>aR a Z (gA  m (a.ro 0 Z).rp ⟨((b.rp 0 Z).b a.fr).svrp,((b.rp 1 Z).b a.fr).svrp,K⟩) Z fun w a=>V 1 Z<|gl2<|V 2 Z<|Q ?_
 apply gl9 Z h<;>intro h
 ·refine R<|V 3 Z<|gl8<|BD ?_
  cases h
  replace a:=g.st a
  exact bH Z Z Z ⟨Q3,Z,(a.nil X).d [0] Z Z⟩
 refine gl6<|V 2 Z<|M h fun x n h=>aO a Z (dY  n ((b.rp 0 Z).b a.fr).rp ((b.rp 1 Z).b a.fr).rp) Z fun y w a=>V 1 Z<|gl1<|R<|V 1 Z<|M h fun ac o h=>aR a Z (f9 0 o ((b.rp 1 Z).b a.fr).rp) Z fun w a=>Q ?_
 apply gl9 Z h<;>intro h
 ·refine R<|V 2 Z ?_
  replace a:=a.pick (os':=[U X y x,U eV u ([SV.of c,SV.of d]:List SV)]++[]) [0,1] (by decide) rfl
  obtain⟨g,b,i,a⟩:=g.frzK hTT b i a
  refine M h fun ad p h=>aK Z (y8  p (g.okT hTT a) (b.i i 3 Z) (b.i i 1 Z)) Z ?_
  rintro _ w ⟨C,D,rfl,z,A⟩
  obtain⟨E,B,g,b,i,a⟩:=g.l b i a z A rfl
  refine V 5 Z<|Q<|Ch<|zu<|B1<|az<|gl5<|az<|R<|V 1 Z<|bm (bJ (e:=X) (l:=([1]:Q0)) (vs:=[v32 1]) u58 aN Z Z Z Z (by decide) (by decide) a) Z fun G w a=>M h fun L j h=>aR a Z (dx  j ((b.rp 4 Z).b a.fr).rp (a.ro 0 Z).rp) Z fun w a=>V 1 Z<|Q ?_
  apply gl9 Z h<;>intro h
  ·refine R<|V 2 Z<|gl8<|vQ ?_
   cases h
   replace a:=g.st a
   exact bH Z Z Z ⟨Q3,Z,(a.nil X).d [0] Z Z⟩
  refine gl6<|V 2 Z<|M h fun T k h=>aO a Z (dY  k ((b.rp 5 Z).b a.fr).rp ((b.rp 1 Z).b a.fr).rp) Z fun q w a=>V 2 Z<|Q<|ar<|vQ ?_
  cases h
  replace a:=g.st a
  exact bH Z Z Z ⟨q,Z,a.d [0] Z Z⟩
 refine gl6<|V 2 Z ?_
 cases h
theorem mu {k:World} {a0 a1 a2:Q0} {m b c:Value} {r:Q0×Int}
  (h:F.IQ a0 a1 a2=some r) (t:RP [] k X m a0) (o:RP [] k X b a1) (d:RP [] k X c a2):Calls Tryz.prog 28 #[m,b,c] k (Ret fun v w=>∃u0:Value,v=.tuple #[u0,H r.2]/\St [] k w [U X u0 r.1]):=by
 refine ax 46 Tryz.func28 Z Z Z<|have a:=St.k k;ay [(0,m),(1,b),(2,c)] Z ?_
 unfold F.IQ at h
 refine R<|V 2 Z<|gl1<|R<|V 3 Z<|bm (bJ (e:=eV) (l:=([SV.of m,SV.of b,SV.of c]:List SV)) (vs:=[m,b,c]) u165 qe Z Z Z (cd (t.b a.fr).sv (cd (o.b a.fr).sv (cd (d.b a.fr).sv Z))) (by decide) (by decide) a) Z fun aG w a=>M h fun aH S h=>aR a Z (gA  S (a.ro 0 Z).rp ⟨(t.b a.fr).svrp,(o.b a.fr).svrp,(d.b a.fr).svrp,K⟩) Z fun w a=>V 1 Z<|gl2<|V 2 Z<|Q ?_
 apply gl9 Z h<;>intro h
 ·refine R<|V 3 Z<|gl8 ?_
  cases h
  exact bH Z Z Z ⟨Q3,Z,(a.nil X).d [0] Z Z⟩
 refine gl6<|V 2 Z<|M h fun u T h=>aO a Z (dY  T (t.b a.fr).rp (d.b a.fr).rp) Z fun n w a=>V 1 Z<|gl2<|bm (bJ (e:=X) (l:=([1]:Q0)) (vs:=[v32 1]) u58 aN Z Z Z Z (by decide) (by decide) a) Z fun aI w a=>V 1 Z<|M h fun aj ab h=>aO a Z (dY  ab (a.ro 0 Z).rp (d.b a.fr).rp) Z fun x w a=>V 1 Z<|gl1<|R<|V 1 Z<|M h fun y z h=>aR a Z (dP  z (o.b a.fr).rp) Z fun w a=>V 2 Z<|Q<|av<|ay [(0,n),(1,b),(2,c),(9,x),(10,H (wI (y - 1)))] Z ?_
 refine bg (F.JL a1 a2 u) (fun (s:Q0×Int) L w=>∃(f:Value),L=[(0,n),(1,b),(2,c),(9,f),(10,H s.2)]/\St [] k w [U X f s.1,U X n u]) ?_ (aj,wI (y - 1)) ⟨x,Z,(a.d [0,2] Z Z)⟩ h
 rintro ao ⟨ap,i⟩ L w ac hI A h p
 try dsimp only at hI
 obtain⟨f,rfl,a⟩:=hI
 unfold F.JL at h
 refine az<|R<|V 2 Z<|Q ?_
 apply gl9 Z h<;>intro h
 ·refine gl5 ?_
  refine aT (r:=ac) (fun (g:Q0) L w=>∃(j:Value),L=[(0,n),(1,b),(2,c),(9,j),(10,H i)]/\St [] k w [U X j g,U X n u]) (F.Jx i) ?_ ?_
  rotate_left
  ·intro q
   refine av<|R<|V 2 Z<|M h fun aq B h=>aO a Z (nM  B (a.ro 0 Z).rp (a.ro 0 Z).rp) Z fun au w a=>V 1 Z<|M h fun ad C h=>aO a Z (dY  C (a.ro 0 Z).rp (d.b a.fr).rp) Z fun ae w a=>V 1 Z<|gl2<|V 2 Z<|M h fun aw D h=>aR a Z (f9 i D (o.b a.fr).rp) Z fun w a=>Q ?_
   apply gl9 Z h<;>intro h
   ·exact am<|V 2 Z<|M h fun aC E h=>aO a Z (nM  E (a.ro 0 Z).rp (a.ro 3 Z).rp) Z fun aD w a=>V 1 Z<|M h fun O G h=>aO a Z (dY  G (a.ro 0 Z).rp (d.b a.fr).rp) Z fun ah w a=>V 1 Z<|aE<|aF<|al<|aA (q O _ _ ⟨ah,Z,(a.d [0,5] Z Z)⟩ h) Z
   exact cg<|aF<|al<|aA (q ad _ _ ⟨ae,Z,(a.d [0,3] Z Z)⟩ h) Z
  rintro J L w hJ h
  try dsimp only at hJ
  obtain⟨j,rfl,a⟩:=hJ
  unfold F.Jx at h
  exact am<|V 3 Z<|aE<|bn (br (A (J,wI (i - 1)) _ _ ⟨j,Z,a⟩ (aX h p)) Z)
 refine a7<|aB<|aB<|have h:=aS h p;a8<|al<|R<|V 3 Z<|Q<|ar ?_
 cases h
 exact bH Z Z Z ⟨f,Z,a.d [0] Z Z⟩
end Go.Proofs
