import Derived.Test.YtmegjloifgfldaaGreatDoorRW0
import Derived.Test.YtmegjloifgfldaaGreatDoorGkFman
import Derived.Test.YtmegjloifgfldaaGreatDoorRWnatb
set_option linter.unusedVariables false
set_option linter.unusedSimpArgs false
set_option linter.unusedSectionVars false
set_option maxRecDepth 4000
namespace Go.Proofs
open Go Go.RowKit Go.Gk
open Go.Gk renaming aa -> V, af -> M, ag -> O, ai -> J, e32 -> X, gl3 -> Q, gl4 -> R, own -> U, vI -> H
open Nat renaming le_of_ble_eq_true -> W
open Go.Gk.Rds renaming cons -> I
theorem wL {b:World} {a0:Q0} {a:Value} {r:Int}
  (h:F.KZ a0=some r) (e:RP [] b X a a0):Calls Tryz.prog 114 #[a] b (Ret fun v w=>v=H r/\St [] b w []):=by
 refine ay 7 Tryz.func114 Z Z Z<|have c:=St.k b;ax [(0,a)] Z ?_
 unfold F.KZ at h
 refine R<|V 1 Z<|gl2<|V 1 Z<|M h fun f d h=>aS c Z (dM  d (e.b c.fr).rp) Z fun w c=>V 1 Z<|O (aj Z Z (dJ _ (wI (f+31)) 32 (by decide))) Z<|V 1 Z<|Q<|aq ?_
 cases h
 exact au Z Z ⟨Z,c⟩
theorem gy {g:World} {a0:List Q0} {b:Value} {s0:List SV} {r:Int}
  (h:F.G4 a0=some r) (c:RP [] g eV b s0) (hl0:il [] g X s0 a0):Calls Tryz.prog 63 #[b] g (Ret fun v w=>v=H r/\St [] g w []):=by
 refine ay 23 Tryz.func63 Z Z Z<|have a:=St.k g;ax [(0,b)] Z ?_
 unfold F.G4 at h
 refine R<|V 1 Z<|gl1<|R<|V 1 Z<|O (tI u165 Z (c.b a.fr) hl0.len) Z<|V 1 Z<|Q<|av<|ax [(0,b),(5,b),(6,H (a0.length:Int)),(7,H 0)] Z ?_
 refine bf (F.HQ a0) (fun (s:Int) L w=>L=[(0,b),(5,b),(6,H (a0.length:Int)),(7,H s)]/\St [] g w []) ?_ 0 ⟨Z,a⟩ h
 rintro u p L w z q l h e
 try dsimp only at q
 obtain⟨rfl,a⟩:=q
 unfold F.HQ at h
 refine R<|V 1 Z<|gl1 ?_
 apply gl9 Z h<;>intro h
 ·refine gl5<|az<|av<|R<|M h fun A m h=>?_
  obtain⟨x,f,j⟩:=hl0.get m
  refine O (bh u165 qa Z Z (c.b a.fr) f) Z<|O (aX u58 Z Z (c.b a.fr) f Z) Z<|V 1 Z<|gl2<|V 1 Z<|M h fun B n h=>aS a Z (wL  n (j.b a.fr).rp) Z fun w a=>V 1 Z<|Q ?_
  apply gl9 Z h<;>intro h
  ·refine R<|V 1 Z<|Q<|aq<|bb<|aN<|aN<|have h:=aR h e;bb<|aN ?_
   cases h
   exact au Z Z ⟨Z,a⟩
  exact cf<|aH<|am<|al<|V 2 Z<|aG<|bo (br (l (wI (p+1)) _ _ ⟨Z,a⟩ (aW h e)) Z)
 refine aZ<|aA<|aA<|have h:=aR h e;a7<|am<|az<|R<|V 2 Z<|O (tI u165 Z (c.b a.fr) hl0.len) Z<|V 1 Z<|M h fun C o h=>?_
 obtain⟨t,d,i⟩:=hl0.get o
 refine O (bh u165 qa Z Z (c.b a.fr) d) Z<|O (aX u58 Z Z (c.b a.fr) d Z) Z<|M h fun y k h=>aS a Z (dM  k (i.b a.fr).rp) Z fun w a=>V 1 Z<|Q ?_
 apply gl9 Z h<;>intro h
 ·refine R<|V 1 Z<|gl8 ?_
  cases h
  exact au Z Z ⟨Z,a⟩
 refine gl6<|V 1 Z<|Q<|aq ?_
 cases h
 exact au Z Z ⟨Z,a⟩
theorem dW {a:World} {a0 a1:Q0} {b c:Value} {r:Q0}
  (h:F.GO a0 a1=some r) (f:RP [] a X b a0) (g:RP [] a X c a1):Calls Tryz.prog 64 #[b,c] a (Ret fun v w=>St [] a w [U X v r]):=by
 refine ay 16 Tryz.func64 Z Z Z<|have d:=St.k a;ax [(0,b),(1,c)] Z ?_
 unfold F.GO at h
 refine R<|V 1 Z<|gl2<|V 2 Z<|M h fun i e h=>bA d Z (kB  e (f.b d.fr).rp (g.b d.fr).rp) Z fun j k w d=>V 7 Z<|gl2<|V 2 Z<|Q<|aq ?_
 cases h
 exact au Z Z (d.d [1] Z Z)
theorem mA {f:World} {a0 a1 a2:Q0} {b c d:Value} {r:Q0×Int}
  (h:F.I9 a0 a1 a2=some r) (g:RP [] f X b a0) (i:RP [] f X c a1) (j:RP [] f X d a2):Calls Tryz.prog 39 #[b,c,d] f (Ret fun v w=>∃u0:Value,v=.tuple #[u0,H r.2]/\St [] f w [U X u0 r.1]):=by
 refine ay 22 Tryz.func39 Z Z Z<|have a:=St.k f;ax [(0,b),(1,c),(2,d)] Z ?_
 unfold F.I9 at h
 refine R<|V 2 Z<|gl1<|R<|V 3 Z<|bn (bJ (e:=eV) (l:=([SV.of b,SV.of c,SV.of d]:List SV)) (vs:=[b,c,d]) u165 qa Z Z Z (cb (g.b a.fr).sv (cb (i.b a.fr).sv (cb (j.b a.fr).sv Z))) (by decide) (by decide) a) Z fun p w a=>M h fun q k h=>aS a Z (gy  k (a.ro 0 Z).rp ⟨(g.b a.fr).svrp,(i.b a.fr).svrp,(j.b a.fr).svrp,K⟩) Z fun w a=>V 1 Z<|gl2<|V 2 Z<|Q ?_
 apply gl9 Z h<;>intro h
 ·refine R<|V 3 Z<|gl8 ?_
  cases h
  exact bE Z Z Z ⟨Q3,Z,(a.nil X).d [0] Z Z⟩
 refine gl6<|V 2 Z<|M h fun s m h=>aM a Z (nF  m (g.b a.fr).rp (i.b a.fr).rp) Z fun t w a=>V 1 Z<|M h fun u n h=>aM a Z (dW  n (a.ro 0 Z).rp (j.b a.fr).rp) Z fun o w a=>V 2 Z<|Q<|aq ?_
 cases h
 exact bE Z Z Z ⟨o,Z,a.d [0] Z Z⟩
theorem kz {b:World} {a0 a1 a2:Q0} {e f i:Value} {r:Q0}
  (h:F.I0 a0 a1 a2=some r) (j:RP [] b X e a0) (k:RP [] b X f a1) (o:RP [] b X i a2):Calls Tryz.prog 132 #[e,f,i] b (Ret fun v w=>St [] b w [U X v r]):=by
 refine ay 26 Tryz.func132 Z Z Z<|have a:=St.k b;ax [(0,e),(1,f),(2,i)] Z ?_
 unfold F.I0 at h
 refine R<|V 1 Z<|gl2<|V 2 Z<|M h fun p l h=>cU a Z (lh  l (j.b a.fr).rp (k.b a.fr).rp) Z fun q w a=>V 5 Z<|Q ?_
 refine aU (r:=r) (fun (g:Q0) L w=>∃(c:Value),L=[(7,c)]/\St [] b w [U X c g]) (F.LE) ?_ ?_
 rotate_left
 ·intro d
  refine R<|V 2 Z<|Q ?_
  apply gl9 Z h<;>intro h
  ·exact al<|V 2 Z<|M h fun y m h=>aM a Z (kZ  m (j.b a.fr).rp (o.b a.fr).rp) Z fun z w a=>V 1 Z<|M h fun s n h=>cU a Z (lh  n (a.ro 0 Z).rp (k.b a.fr).rp) Z fun t w a=>V 4 Z<|Q<|aB (d s.1 _ _ ⟨t,Z,(a.d [0] Z Z)⟩ h) Z
  exact gl5<|aB (d p.1 _ _ ⟨q,Z,a⟩ h) Z
 rintro x L w u h
 try dsimp only at u
 obtain⟨c,rfl,a⟩:=u
 unfold F.LE at h
 refine R<|V 2 Z<|Q<|aq ?_
 cases h
 exact au Z Z (a.d [0] Z Z)
theorem yi {g:World} {a0 a1 a2:Q0} {b c d:Value} {r:Q0×Int}
  (h:F.LD a0 a1 a2=some r) (i:RP [] g X b a0) (j:RP [] g X c a1) (f:RP [] g X d a2):Calls Tryz.prog 97 #[b,c,d] g (Ret fun v w=>∃u0:Value,v=.tuple #[u0,H r.2]/\St [] g w [U X u0 r.1]):=by
 refine ay 25 Tryz.func97 Z Z Z<|have a:=St.k g;ax [(0,b),(1,c),(2,d)] Z ?_
 unfold F.LD at h
 refine R<|V 2 Z<|gl1<|R<|V 3 Z<|bn (bJ (e:=eV) (l:=([SV.of b,SV.of c,SV.of d]:List SV)) (vs:=[b,c,d]) u165 qa Z Z Z (cb (i.b a.fr).sv (cb (j.b a.fr).sv (cb (f.b a.fr).sv Z))) (by decide) (by decide) a) Z fun s w a=>M h fun t m h=>aS a Z (gy  m (a.ro 0 Z).rp ⟨(i.b a.fr).svrp,(j.b a.fr).svrp,(f.b a.fr).svrp,K⟩) Z fun w a=>V 1 Z<|gl2<|V 2 Z<|Q ?_
 apply gl9 Z h<;>intro h
 ·refine R<|V 3 Z<|gl8 ?_
  cases h
  exact bE Z Z Z ⟨Q3,Z,(a.nil X).d [0] Z Z⟩
 refine gl6<|V 2 Z<|M h fun u n h=>aM a Z (dW  n (i.b a.fr).rp (f.b a.fr).rp) Z fun x w a=>V 2 Z<|M h fun y o h=>aM a Z (dW  o (j.b a.fr).rp (f.b a.fr).rp) Z fun z w a=>V 1 Z<|M h fun q k h=>aM a Z (kz  k (a.ro 1 Z).rp (a.ro 0 Z).rp (f.b a.fr).rp) Z fun p w a=>V 2 Z<|Q<|aq ?_
 cases h
 exact bE Z Z Z ⟨p,Z,a.d [0] Z Z⟩
theorem xX {f:World} {a0 a1 a2:Q0} {b c d:Value} {r:Q0×Int}
  (h:F.Ld a0 a1 a2=some r) (g:RP [] f X b a0) (i:RP [] f X c a1) (j:RP [] f X d a2):Calls Tryz.prog 152 #[b,c,d] f (Ret fun v w=>∃u0:Value,v=.tuple #[u0,H r.2]/\St [] f w [U X u0 r.1]):=by
 refine ay 22 Tryz.func152 Z Z Z<|have a:=St.k f;ax [(0,b),(1,c),(2,d)] Z ?_
 unfold F.Ld at h
 refine R<|V 2 Z<|gl1<|R<|V 3 Z<|bn (bJ (e:=eV) (l:=([SV.of b,SV.of c,SV.of d]:List SV)) (vs:=[b,c,d]) u165 qa Z Z Z (cb (g.b a.fr).sv (cb (i.b a.fr).sv (cb (j.b a.fr).sv Z))) (by decide) (by decide) a) Z fun p w a=>M h fun q k h=>aS a Z (gy  k (a.ro 0 Z).rp ⟨(g.b a.fr).svrp,(i.b a.fr).svrp,(j.b a.fr).svrp,K⟩) Z fun w a=>V 1 Z<|gl2<|V 2 Z<|Q ?_
 apply gl9 Z h<;>intro h
 ·refine R<|V 3 Z<|gl8 ?_
  cases h
  exact bE Z Z Z ⟨Q3,Z,(a.nil X).d [0] Z Z⟩
 refine gl6<|V 2 Z<|M h fun s m h=>aM a Z (kZ  m (g.b a.fr).rp (i.b a.fr).rp) Z fun t w a=>V 1 Z<|M h fun u n h=>aM a Z (dW  n (a.ro 0 Z).rp (j.b a.fr).rp) Z fun o w a=>V 2 Z<|Q<|aq ?_
 cases h
 exact bE Z Z Z ⟨o,Z,a.d [0] Z Z⟩
theorem pn {b:World} {a0 a1:Q0} {c d:Value} {r:Q0}
  (h:F.JW a0 a1=some r) (e:RP [] b X c a0) (k:RP [] b X d a1):Calls Tryz.prog 130 #[c,d] b (Ret fun v w=>St [] b w [U X v r]):=by
 refine ay 12 Tryz.func130 Z Z Z<|have a:=St.k b;ax [(0,c),(1,d)] Z ?_
 unfold F.JW at h
 refine R<|V 1 Z<|gl1<|R<|V 1 Z<|M h fun p i h=>aS a Z (fZ 0 i (e.b a.fr).rp) Z fun w a=>Q ?_
 apply gl9 Z h<;>intro h
 ·refine al<|V 2 Z<|M h fun q j h=>aM a Z (kZ  j (e.b a.fr).rp (k.b a.fr).rp) Z fun s w a=>V 1 Z<|gl2<|V 1 Z<|M h fun l f h=>aM a Z (jD 1 f (a.ro 0 Z).rp) Z fun m w a=>V 1 Z<|Q<|aq ?_
  cases h
  exact au Z Z (a.d [0] Z Z)
 refine gl6<|V 1 Z<|M h fun n g h=>aM a Z (jD 1 g (e.b a.fr).rp) Z fun o w a=>V 1 Z<|Q<|aq ?_
 cases h
 exact au Z Z (a.d [0] Z Z)
theorem yV {m:World} {a0 a1:Q0} {p c:Value} {T:Q2} {r:Q0×Q0}
  (h:F.H7 a0 a1=some r) (hTT:TOk [] T m) (a4:RP T m X p a0) (a5:RP T m X c a1):Calls Tryz.prog 80 #[p,c] m (Ret fun v w=>∃u0:Value,∃u1:Value,v=.tuple #[u0,u1]/\St [] m w []/\Rds T w [red X u1 r.2,red X u0 r.1]):=by
 refine ay 59 Tryz.func80 Z Z Z<|have a:=St.k m;have d:=Fz.k (S:=[]) (w0:=m);?_
 have hA0:Rds T m [red X c a1,red X p a0]:=I (RP.h (W Z) a5) (I (RP.h (W Z) a4) (Rds.nil))
 have b:=hA0.all
 have f:=hA0.off Z
 refine ax [(0,p),(1,c)] Z ?_
 unfold F.H7 at h
 refine R<|V 2 Z<|gl2<|V 4 Z<|gl2<|bn (bJ (e:=X) (l:=([1]:Q0)) (vs:=[v32 1]) u58 aL Z Z Z Z (by decide) (by decide) a) Z fun G w a=>bn (uy (e:=X) u58 aL a) Z fun ab w a=>V 2 Z<|gl1<|av ?_
 replace a:=a.pick (os':=[U X ab [],U X G ([1]:Q0)]++[]) [0,1] (by decide) rfl
 obtain⟨bD,bg,d,b,f,a⟩:=d.frzT hTT b f a
 refine ax [(1,c),(6,p),(7,c),(8,G),(9,ab)] Z ?_
 refine bf (F.IN a1) (fun (s:Q0×Q0×Q0×Q0) L w=>∃(n:Value) (g:Value) (o:Value) (i:Value),L=[(1,c),(6,n),(7,g),(8,o),(9,i)]/\SfT [] T m w [red X i s.2.2.2,red X o s.2.2.1,red X g s.2.1,red X n s.1,red X c a1] []) ?_ (a0,a1,([1]:Q0),[]) ⟨p,c,G,ab,Z,(SfT.mk' d (b.pick [3,2,1,0,1] Z) (f.pick [3,2,1,0,1] Z) a)⟩ h
 rintro bh ⟨a6,y,aY,z⟩ L w bi x C h q
 try dsimp only at x
 obtain⟨n,g,o,i,rfl,⟨bF,bj,d,b,f,a⟩⟩:=x
 unfold F.IN at h
 refine az<|R<|V 1 Z<|M h fun bk aD h=>aS a Z (dM  aD ((b.rp 1 Z).b a.fr).rp) Z fun w a=>V 1 Z<|Q ?_
 apply gl9 Z h<;>intro h
 ·refine gl5<|av<|az<|av<|ax [(1,c),(6,n),(7,g),(8,o),(9,i)] Z ?_
  refine bf (F.Kk a1 y z) (fun (s:Q0×Q0) L w=>∃(j:Value) (k:Value),L=[(1,c),(6,j),(7,g),(8,k),(9,i)]/\SfT [] T m w [red X i z,red X k s.2,red X g y,red X j s.1,red X c a1] []) ?_ (a6,aY) ⟨n,o,Z,(SfT.mk' d (b.pick [4,3,2,1,0] Z) (f.pick [4,3,2,1,0] Z) a)⟩ h
  rintro bl ⟨A,B⟩ L w bm x aE h D
  try dsimp only at x
  obtain⟨j,k,rfl,⟨bp,a9,d,b,f,a⟩⟩:=x
  unfold F.Kk at h
  refine az<|R<|V 1 Z<|M h fun bq aF h=>aS a Z (fZ 0 aF ((b.rp 1 Z).b a.fr).rp) Z fun w a=>V 1 Z<|Q ?_
  apply gl9 Z h<;>intro h
  ·refine gl5<|av<|al<|V 1 Z<|M h fun ac aI h=>aM a Z (jD 1 aI ((b.rp 1 Z).b a.fr).rp) Z fun ad w a=>V 2 Z<|M h fun ae aJ h=>aM a Z (pn  aJ ((b.rp 3 Z).b a.fr).rp ((b.rp 0 Z).b a.fr).rp) Z fun O w a=>V 2 Z<|aG<|aH ?_
   replace a:=a.pick (os':=[U X O ae,U X ad ac]++[]) [0,1] (by decide) rfl
   obtain⟨bs,ba,d,b,f,a⟩:=d.frzT hTT b f a
   exact bo (br (aE (ac,ae) _ _ ⟨ad,O,Z,(SfT.mk' d (b.pick [4,6,2,5,0] Z) (f.pick [4,6,2,5,0] Z) a)⟩ (aW h D)) Z)
  refine aZ<|aA<|aA<|have h:=aR h D;a7<|am<|az<|av<|ax [(1,c),(6,j),(7,g),(8,k),(9,i)] Z ?_
  refine bf (F.Jt a1 A B) (fun (s:Q0×Q0) L w=>∃(t:Value) (u:Value),L=[(1,c),(6,j),(7,t),(8,k),(9,u)]/\SfT [] T m w [red X u s.2,red X k B,red X t s.1,red X j A,red X c a1] []) ?_ (y,z) ⟨g,i,Z,(SfT.mk' d (b.pick [4,3,2,1,0] Z) (f.pick [4,3,2,1,0] Z) a)⟩ h
  rintro bt ⟨a2,a3⟩ L w bu x aK h E
  try dsimp only at x
  obtain⟨t,u,rfl,⟨bv,bb,d,b,f,a⟩⟩:=x
  unfold F.Jt at h
  refine az<|R<|V 1 Z<|M h fun bw aN h=>aS a Z (fZ 0 aN ((b.rp 2 Z).b a.fr).rp) Z fun w a=>V 1 Z<|Q ?_
  apply gl9 Z h<;>intro h
  ·refine gl5<|av<|al<|V 1 Z<|M h fun ah aO h=>aM a Z (jD 1 aO ((b.rp 2 Z).b a.fr).rp) Z fun J w a=>V 2 Z<|M h fun aj aP h=>aM a Z (pn  aP ((b.rp 4 Z).b a.fr).rp ((b.rp 0 Z).b a.fr).rp) Z fun ak w a=>V 2 Z<|aG<|aH ?_
   replace a:=a.pick (os':=[U X ak aj,U X J ah]++[]) [0,1] (by decide) rfl
   obtain⟨bx,bc,d,b,f,a⟩:=d.frzT hTT b f a
   exact bo (br (aK (ah,aj) _ _ ⟨J,ak,Z,(SfT.mk' d (b.pick [6,3,5,1,0] Z) (f.pick [6,3,5,1,0] Z) a)⟩ (aW h E)) Z)
  refine aZ<|aA<|aA<|have h:=aR h E;a7<|am<|R<|V 2 Z<|M h fun bz aQ h=>aS a Z (du  aQ ((b.rp 1 Z).b a.fr).rp ((b.rp 2 Z).b a.fr).rp) Z fun w a=>V 1 Z<|Q ?_
  apply gl9 Z h<;>intro h
  ·refine R<|V 2 Z<|M h fun an aT h=>cU a Z (lh  aT ((b.rp 1 Z).b a.fr).rp ((b.rp 2 Z).b a.fr).rp) Z fun ao w a=>V 4 Z<|Q<|al<|V 3 Z<|M h fun ap aU h=>aM a Z (kz  aU ((b.rp 3 Z).b a.fr).rp ((b.rp 4 Z).b a.fr).rp ((b.rp 0 Z).b a.fr).rp) Z fun ar w a=>V 1 Z<|aG<|aH ?_
   replace a:=a.pick (os':=[U X ar ap,U X ao an.1]++[]) [0,1] (by decide) rfl
   obtain⟨bA,bd,d,b,f,a⟩:=d.frzT hTT b f a
   exact bo (br (C (an.1,a2,ap,a3) _ _ ⟨ao,t,ar,u,Z,(SfT.mk' d (b.pick [4,6,2,5,0] Z) (f.pick [4,6,2,5,0] Z) a)⟩ (aW h q)) Z)
  refine R<|V 2 Z<|M h fun au aV h=>cU a Z (lh  aV ((b.rp 2 Z).b a.fr).rp ((b.rp 1 Z).b a.fr).rp) Z fun aw w a=>V 4 Z<|Q<|al<|V 3 Z<|M h fun aB aX h=>aM a Z (kz  aX ((b.rp 4 Z).b a.fr).rp ((b.rp 3 Z).b a.fr).rp ((b.rp 0 Z).b a.fr).rp) Z fun aC w a=>V 1 Z<|aG<|aH ?_
  replace a:=a.pick (os':=[U X aC aB,U X aw au.1]++[]) [0,1] (by decide) rfl
  obtain⟨bB,be,d,b,f,a⟩:=d.frzT hTT b f a
  exact bo (br (C (A,au.1,B,aB) _ _ ⟨j,aw,k,aC,Z,(SfT.mk' d (b.pick [6,3,5,1,0] Z) (f.pick [6,3,5,1,0] Z) a)⟩ (aW h q)) Z)
 refine aZ<|aA<|aA<|have h:=aR h q;a7<|am<|R<|V 4 Z<|Q<|aq ?_
 cases h
 obtain⟨a8,hR⟩:=d.outT hTT b f a
 exact bE Z Z Z ⟨g,i,Z,a8,(hR.pick [4,2] Z)⟩
theorem qo {f:World} {a0 a1:Q0} {c d:Value} {r:Q0×Int}
  (h:F.Hy a0 a1=some r) (s:RP [] f X c a0) (t:RP [] f X d a1):Calls Tryz.prog 38 #[c,d] f (Ret fun v w=>∃u0:Value,v=.tuple #[u0,H r.2]/\St [] f w [U X u0 r.1]):=by
 refine ay 40 Tryz.func38 Z Z Z<|have a:=St.k f;have g:=Fz.k (S:=[]) (w0:=f);?_
 have hTT:TOk [] [] f:=TOk.nil
 have b:Rds [] f [red X d a1,red X c a0]:=I (RP.h (W Z) t) (I (RP.h (W Z) s) (Rds.nil))
 have i:Off [] [red X d a1,red X c a0]:=Off.emp
 refine ax [(0,c),(1,d)] Z ?_
 unfold F.Hy at h
 refine R<|V 2 Z<|Q<|yo 0 Z<|R<|V 2 Z<|gl1<|R<|V 2 Z<|bn (bJ (e:=eV) (l:=([SV.of c,SV.of d]:List SV)) (vs:=[c,d]) u165 qa Z Z Z (cb ((b.rp 0 Z).b a.fr).sv (cb ((b.rp 1 Z).b a.fr).sv Z)) (by decide) (by decide) a) Z fun u w a=>M h fun ab m h=>aS a Z (gy  m (a.ro 0 Z).rp ⟨((b.rp 0 Z).b a.fr).svrp,((b.rp 1 Z).b a.fr).svrp,K⟩) Z fun w a=>V 1 Z<|gl2<|V 2 Z<|Q ?_
 apply gl9 Z h<;>intro h
 ·refine R<|V 3 Z<|gl8<|Bw ?_
  cases h
  replace a:=g.st a
  exact bE Z Z Z ⟨Q3,Z,(a.nil X).d [0] Z Z⟩
 refine gl6<|V 2 Z<|M h fun x n h=>aM a Z (dW  n ((b.rp 0 Z).b a.fr).rp ((b.rp 1 Z).b a.fr).rp) Z fun y w a=>V 1 Z<|gl1<|R<|V 1 Z<|M h fun ac o h=>aS a Z (fZ 0 o ((b.rp 1 Z).b a.fr).rp) Z fun w a=>Q ?_
 apply gl9 Z h<;>intro h
 ·refine R<|V 2 Z ?_
  replace a:=a.pick (os':=[U X y x,U eV u ([SV.of c,SV.of d]:List SV)]++[]) [0,1] (by decide) rfl
  obtain⟨g,b,i,a⟩:=g.frzK hTT b i a
  refine M h fun ad p h=>aJ Z (yV  p (g.okT hTT a) (b.i i 3 Z) (b.i i 1 Z)) Z ?_
  rintro _ w ⟨C,D,rfl,z,A⟩
  obtain⟨E,B,g,b,i,a⟩:=g.l b i a z A rfl
  refine V 5 Z<|Q<|B9<|zo<|BT<|az<|gl5<|az<|R<|V 1 Z<|bn (bJ (e:=X) (l:=([1]:Q0)) (vs:=[v32 1]) u58 aL Z Z Z Z (by decide) (by decide) a) Z fun G w a=>M h fun L j h=>aS a Z (du  j ((b.rp 4 Z).b a.fr).rp (a.ro 0 Z).rp) Z fun w a=>V 1 Z<|Q ?_
  apply gl9 Z h<;>intro h
  ·refine R<|V 2 Z<|gl8<|vK ?_
   cases h
   replace a:=g.st a
   exact bE Z Z Z ⟨Q3,Z,(a.nil X).d [0] Z Z⟩
  refine gl6<|V 2 Z<|M h fun T k h=>aM a Z (dW  k ((b.rp 5 Z).b a.fr).rp ((b.rp 1 Z).b a.fr).rp) Z fun q w a=>V 2 Z<|Q<|aq<|vK ?_
  cases h
  replace a:=g.st a
  exact bE Z Z Z ⟨q,Z,a.d [0] Z Z⟩
 refine gl6<|V 2 Z ?_
 cases h
theorem mp {k:World} {a0 a1 a2:Q0} {m b c:Value} {r:Q0×Int}
  (h:F.IJ a0 a1 a2=some r) (t:RP [] k X m a0) (o:RP [] k X b a1) (d:RP [] k X c a2):Calls Tryz.prog 28 #[m,b,c] k (Ret fun v w=>∃u0:Value,v=.tuple #[u0,H r.2]/\St [] k w [U X u0 r.1]):=by
 refine ay 46 Tryz.func28 Z Z Z<|have a:=St.k k;ax [(0,m),(1,b),(2,c)] Z ?_
 unfold F.IJ at h
 refine R<|V 2 Z<|gl1<|R<|V 3 Z<|bn (bJ (e:=eV) (l:=([SV.of m,SV.of b,SV.of c]:List SV)) (vs:=[m,b,c]) u165 qa Z Z Z (cb (t.b a.fr).sv (cb (o.b a.fr).sv (cb (d.b a.fr).sv Z))) (by decide) (by decide) a) Z fun aE w a=>M h fun aF S h=>aS a Z (gy  S (a.ro 0 Z).rp ⟨(t.b a.fr).svrp,(o.b a.fr).svrp,(d.b a.fr).svrp,K⟩) Z fun w a=>V 1 Z<|gl2<|V 2 Z<|Q ?_
 apply gl9 Z h<;>intro h
 ·refine R<|V 3 Z<|gl8 ?_
  cases h
  exact bE Z Z Z ⟨Q3,Z,(a.nil X).d [0] Z Z⟩
 refine gl6<|V 2 Z<|M h fun u T h=>aM a Z (dW  T (t.b a.fr).rp (d.b a.fr).rp) Z fun n w a=>V 1 Z<|gl2<|bn (bJ (e:=X) (l:=([1]:Q0)) (vs:=[v32 1]) u58 aL Z Z Z Z (by decide) (by decide) a) Z fun aI w a=>V 1 Z<|M h fun aj ab h=>aM a Z (dW  ab (a.ro 0 Z).rp (d.b a.fr).rp) Z fun x w a=>V 1 Z<|gl1<|R<|V 1 Z<|M h fun y z h=>aS a Z (dM  z (o.b a.fr).rp) Z fun w a=>V 2 Z<|Q<|av<|ax [(0,n),(1,b),(2,c),(9,x),(10,H (wI (y - 1)))] Z ?_
 refine bf (F.JB a1 a2 u) (fun (s:Q0×Int) L w=>∃(f:Value),L=[(0,n),(1,b),(2,c),(9,f),(10,H s.2)]/\St [] k w [U X f s.1,U X n u]) ?_ (aj,wI (y - 1)) ⟨x,Z,(a.d [0,2] Z Z)⟩ h
 rintro ao ⟨ap,i⟩ L w ac hI A h p
 try dsimp only at hI
 obtain⟨f,rfl,a⟩:=hI
 unfold F.JB at h
 refine az<|R<|V 2 Z<|Q ?_
 apply gl9 Z h<;>intro h
 ·refine gl5 ?_
  refine aU (r:=ac) (fun (g:Q0) L w=>∃(j:Value),L=[(0,n),(1,b),(2,c),(9,j),(10,H i)]/\St [] k w [U X j g,U X n u]) (F.Jo i) ?_ ?_
  rotate_left
  ·intro q
   refine av<|R<|V 2 Z<|M h fun ar B h=>aM a Z (nF  B (a.ro 0 Z).rp (a.ro 0 Z).rp) Z fun au w a=>V 1 Z<|M h fun ad C h=>aM a Z (dW  C (a.ro 0 Z).rp (d.b a.fr).rp) Z fun ae w a=>V 1 Z<|gl2<|V 2 Z<|M h fun aw D h=>aS a Z (fZ i D (o.b a.fr).rp) Z fun w a=>Q ?_
   apply gl9 Z h<;>intro h
   ·exact al<|V 2 Z<|M h fun aC E h=>aM a Z (nF  E (a.ro 0 Z).rp (a.ro 3 Z).rp) Z fun aD w a=>V 1 Z<|M h fun O G h=>aM a Z (dW  G (a.ro 0 Z).rp (d.b a.fr).rp) Z fun ah w a=>V 1 Z<|aG<|aH<|am<|aB (q O _ _ ⟨ah,Z,(a.d [0,5] Z Z)⟩ h) Z
   exact cf<|aH<|am<|aB (q ad _ _ ⟨ae,Z,(a.d [0,3] Z Z)⟩ h) Z
  rintro J L w hJ h
  try dsimp only at hJ
  obtain⟨j,rfl,a⟩:=hJ
  unfold F.Jo at h
  exact al<|V 3 Z<|aG<|bo (br (A (J,wI (i - 1)) _ _ ⟨j,Z,a⟩ (aW h p)) Z)
 refine aZ<|aA<|aA<|have h:=aR h p;a7<|am<|R<|V 3 Z<|Q<|aq ?_
 cases h
 exact bE Z Z Z ⟨f,Z,a.d [0] Z Z⟩
end Go.Proofs
