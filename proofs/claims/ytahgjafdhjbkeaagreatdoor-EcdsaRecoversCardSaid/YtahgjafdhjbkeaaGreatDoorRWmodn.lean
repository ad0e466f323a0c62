import Derived.Test.YtahgjafdhjbkeaaGreatDoorRW0
import Derived.Test.YtahgjafdhjbkeaaGreatDoorGkFman
import Derived.Test.YtahgjafdhjbkeaaGreatDoorRWnatb
set_option linter.unusedVariables false
set_option linter.unusedSimpArgs false
set_option linter.unusedSectionVars false
set_option maxRecDepth 4000
namespace Go.Proofs
open Go Go.RowKit Go.Gk
open Go.Gk renaming aa -> V, af -> J, ag -> N, ai -> H, e32 -> X, gl3 -> P, gl4 -> R, own -> U, red -> Q, vI -> I
open Nat renaming le_of_ble_eq_true -> W
open Go.Gk.Rds renaming cons -> M
theorem uO {b:World} {a0:L0} {a:Value} {r:Int}
  (h:F.Ij a0=some r) (e:RP [] b X a a0):Calls Tryz.prog 112 #[a] b (Ret fun v w=>v=I r/\St [] b w []):=by
 refine aB 7 Tryz.func112 Z Z Z<|have c:=St.k b;ax [(0,a)] Z ?_
 unfold F.Ij at h
 refine R<|V 1 Z<|gl2<|V 1 Z<|J h fun f d h=>bf c Z (gx  d (e.b c.fr).rp) Z fun w c=>V 1 Z<|N (aj Z Z (dW _ (wI (f+31)) 32 (by decide))) Z<|V 1 Z<|P<|ay ?_
 cases h
 exact az Z Z ⟨Z,c⟩
theorem j6 {g:World} {a0:List L0} {b:Value} {s0:List SV} {r:Int}
  (h:F.EK a0=some r) (c:RP [] g eV b s0) (hl0:gU [] g X s0 a0):Calls Tryz.prog 52 #[b] g (Ret fun v w=>v=I r/\St [] g w []):=by
 refine aB 23 Tryz.func52 Z Z Z<|have a:=St.k g;ax [(0,b)] Z ?_
 unfold F.EK at h
 refine R<|V 1 Z<|gl1<|R<|V 1 Z<|N (r8 u98 Z (c.b a.fr) hl0.len) Z<|V 1 Z<|P<|aq<|ax [(0,b),(5,b),(6,I (a0.length:Int)),(7,I 0)] Z ?_
 refine aT (F.EI a0) (fun (s:Int) L w=>L=[(0,b),(5,b),(6,I (a0.length:Int)),(7,I s)]/\St [] g w []) ?_ 0 ⟨Z,a⟩ h
 rintro u p L w z q l h e
 try dsimp only at q
 obtain⟨rfl,a⟩:=q
 unfold F.EI at h
 refine R<|V 1 Z<|gl1 ?_
 apply gl9 Z h<;>intro h
 ·refine gl5<|aw<|aq<|R<|J h fun A m h=>?_
  obtain⟨x,f,j⟩:=hl0.get m
  refine N (bk u98 kU Z Z (c.b a.fr) f) Z<|N (a9 u31 Z Z (c.b a.fr) f Z) Z<|V 1 Z<|gl2<|V 1 Z<|J h fun B n h=>bf a Z (uO  n (j.b a.fr).rp) Z fun w a=>V 1 Z<|P ?_
  apply gl9 Z h<;>intro h
  ·refine R<|V 1 Z<|P<|ay<|bu<|aU<|aU<|have h:=aI h e;bu<|aU ?_
   cases h
   exact az Z Z ⟨Z,a⟩
  exact cd<|aF<|ak<|al<|V 2 Z<|aE<|bd (bc (l (wI (p+1)) _ _ ⟨Z,a⟩ (aK h e)) Z)
 refine aQ<|av<|av<|have h:=aI h e;aR<|ak<|aw<|R<|V 2 Z<|N (r8 u98 Z (c.b a.fr) hl0.len) Z<|V 1 Z<|J h fun C o h=>?_
 obtain⟨t,d,i⟩:=hl0.get o
 refine N (bk u98 kU Z Z (c.b a.fr) d) Z<|N (a9 u31 Z Z (c.b a.fr) d Z) Z<|J h fun y k h=>bf a Z (gx  k (i.b a.fr).rp) Z fun w a=>V 1 Z<|P ?_
 apply gl9 Z h<;>intro h
 ·refine R<|V 1 Z<|gl8 ?_
  cases h
  exact az Z Z ⟨Z,a⟩
 refine gl6<|V 1 Z<|P<|ay ?_
 cases h
 exact az Z Z ⟨Z,a⟩
theorem gG {a:World} {a0 a1:L0} {b c:Value} {r:L0}
  (h:F.Ef a0 a1=some r) (f:RP [] a X b a0) (g:RP [] a X c a1):Calls Tryz.prog 53 #[b,c] a (Ret fun v w=>St [] a w [U X v r]):=by
 refine aB 16 Tryz.func53 Z Z Z<|have d:=St.k a;ax [(0,b),(1,c)] Z ?_
 unfold F.Ef at h
 refine R<|V 1 Z<|gl2<|V 2 Z<|J h fun i e h=>bE d Z (nm  e (f.b d.fr).rp (g.b d.fr).rp) Z fun j k w d=>V 7 Z<|gl2<|V 2 Z<|P<|ay ?_
 cases h
 exact az Z Z (d.d [1] Z Z)
theorem oF {b:World} {a0 a1:L0} {c d:Value} {r:L0}
  (h:F.Hf a0 a1=some r) (e:RP [] b X c a0) (k:RP [] b X d a1):Calls Tryz.prog 114 #[c,d] b (Ret fun v w=>St [] b w [U X v r]):=by
 refine aB 12 Tryz.func114 Z Z Z<|have a:=St.k b;ax [(0,c),(1,d)] Z ?_
 unfold F.Hf at h
 refine R<|V 1 Z<|gl1<|R<|V 1 Z<|J h fun p i h=>bf a Z (kn 0 i (e.b a.fr).rp) Z fun w a=>P ?_
 apply gl9 Z h<;>intro h
 ·refine al<|V 2 Z<|J h fun q j h=>aV a Z (rn  j (e.b a.fr).rp (k.b a.fr).rp) Z fun s w a=>V 1 Z<|gl2<|V 1 Z<|J h fun l f h=>aV a Z (ko 1 f (a.ro 0 Z).rp) Z fun m w a=>V 1 Z<|P<|ay ?_
  cases h
  exact az Z Z (a.d [0] Z Z)
 refine gl6<|V 1 Z<|J h fun n g h=>aV a Z (ko 1 g (e.b a.fr).rp) Z fun o w a=>V 1 Z<|P<|ay ?_
 cases h
 exact az Z Z (a.d [0] Z Z)
theorem jZ {b:World} {a0 a1 a2:L0} {e f i:Value} {r:L0}
  (h:F.F2 a0 a1 a2=some r) (j:RP [] b X e a0) (k:RP [] b X f a1) (o:RP [] b X i a2):Calls Tryz.prog 71 #[e,f,i] b (Ret fun v w=>St [] b w [U X v r]):=by
 refine aB 26 Tryz.func71 Z Z Z<|have a:=St.k b;ax [(0,e),(1,f),(2,i)] Z ?_
 unfold F.F2 at h
 refine R<|V 1 Z<|gl2<|V 2 Z<|J h fun p l h=>eI a Z (kJ  l (j.b a.fr).rp (k.b a.fr).rp) Z fun q w a=>V 5 Z<|P ?_
 refine a8 (r:=r) (fun (g:L0) L w=>∃(c:Value),L=[(7,c)]/\St [] b w [U X c g]) (F.I2) ?_ ?_
 rotate_left
 ·intro d
  refine R<|V 2 Z<|P ?_
  apply gl9 Z h<;>intro h
  ·exact al<|V 2 Z<|J h fun y m h=>aV a Z (rn  m (j.b a.fr).rp (o.b a.fr).rp) Z fun z w a=>V 1 Z<|J h fun s n h=>eI a Z (kJ  n (a.ro 0 Z).rp (k.b a.fr).rp) Z fun t w a=>V 4 Z<|P<|aG (d s.1 _ _ ⟨t,Z,(a.d [0] Z Z)⟩ h) Z
  exact gl5<|aG (d p.1 _ _ ⟨q,Z,a⟩ h) Z
 rintro x L w u h
 try dsimp only at u
 obtain⟨c,rfl,a⟩:=u
 unfold F.I2 at h
 refine R<|V 2 Z<|P<|ay ?_
 cases h
 exact az Z Z (a.d [0] Z Z)
theorem wF {m:World} {a0 a1:L0} {p c:Value} {T:L2} {r:L0×L0}
  (h:F.HY a0 a1=some r) (hTT:TOk [] T m) (a5:RP T m X p a0) (a6:RP T m X c a1):Calls Tryz.prog 55 #[p,c] m (Ret fun v w=>∃u0:Value,∃u1:Value,v=.tuple #[u0,u1]/\St [] m w []/\Rds T w [Q X u1 r.2,Q X u0 r.1]):=by
 refine aB 59 Tryz.func55 Z Z Z<|have a:=St.k m;have d:=Fz.k (S:=[]) (w0:=m);?_
 have hA0:Rds T m [Q X c a1,Q X p a0]:=M (RP.h (W Z) a6) (M (RP.h (W Z) a5) (Rds.nil))
 have b:=hA0.all
 have f:=hA0.off Z
 refine ax [(0,p),(1,c)] Z ?_
 unfold F.HY at h
 refine R<|V 2 Z<|gl2<|V 4 Z<|gl2<|bC (cq (e:=X) (l:=([1]:L0)) (vs:=[v32 1]) u31 aN Z Z Z Z (by decide) (by decide) a) Z fun G w a=>bC (zm (e:=X) u31 aN a) Z fun ab w a=>V 2 Z<|gl1<|aq ?_
 replace a:=a.pick (os':=[U X ab [],U X G ([1]:L0)]++[]) [0,1] (by decide) rfl
 obtain⟨bD,bi,d,b,f,a⟩:=d.frzT hTT b f a
 refine ax [(1,c),(6,p),(7,c),(8,G),(9,ab)] Z ?_
 refine aT (F.FO a1) (fun (s:L0×L0×L0×L0) L w=>∃(n:Value) (g:Value) (o:Value) (i:Value),L=[(1,c),(6,n),(7,g),(8,o),(9,i)]/\SfT [] T m w [Q X i s.2.2.2,Q X o s.2.2.1,Q X g s.2.1,Q X n s.1,Q X c a1] []) ?_ (a0,a1,([1]:L0),[]) ⟨p,c,G,ab,Z,(SfT.mk' d (b.pick [3,2,1,0,1] Z) (f.pick [3,2,1,0,1] Z) a)⟩ h
 rintro bj ⟨a7,y,a2,z⟩ L w bk x C h q
 try dsimp only at x
 obtain⟨n,g,o,i,rfl,⟨bE,bl,d,b,f,a⟩⟩:=x
 unfold F.FO at h
 refine aw<|R<|V 1 Z<|J h fun bm aD h=>bf a Z (gx  aD ((b.rp 1 Z).b a.fr).rp) Z fun w a=>V 1 Z<|P ?_
 apply gl9 Z h<;>intro h
 ·refine gl5<|aq<|aw<|aq<|ax [(1,c),(6,n),(7,g),(8,o),(9,i)] Z ?_
  refine aT (F.HB a1 y z) (fun (s:L0×L0) L w=>∃(j:Value) (k:Value),L=[(1,c),(6,j),(7,g),(8,k),(9,i)]/\SfT [] T m w [Q X i z,Q X k s.2,Q X g y,Q X j s.1,Q X c a1] []) ?_ (a7,a2) ⟨n,o,Z,(SfT.mk' d (b.pick [4,3,2,1,0] Z) (f.pick [4,3,2,1,0] Z) a)⟩ h
  rintro bn ⟨A,B⟩ L w bo x aG h D
  try dsimp only at x
  obtain⟨j,k,rfl,⟨bp,a9,d,b,f,a⟩⟩:=x
  unfold F.HB at h
  refine aw<|R<|V 1 Z<|J h fun bq aH h=>bf a Z (kn 0 aH ((b.rp 1 Z).b a.fr).rp) Z fun w a=>V 1 Z<|P ?_
  apply gl9 Z h<;>intro h
  ·refine gl5<|aq<|al<|V 1 Z<|J h fun ac aJ h=>aV a Z (ko 1 aJ ((b.rp 1 Z).b a.fr).rp) Z fun ad w a=>V 2 Z<|J h fun ae aL h=>aV a Z (oF  aL ((b.rp 3 Z).b a.fr).rp ((b.rp 0 Z).b a.fr).rp) Z fun N w a=>V 2 Z<|aE<|aF ?_
   replace a:=a.pick (os':=[U X N ae,U X ad ac]++[]) [0,1] (by decide) rfl
   obtain⟨br,ba,d,b,f,a⟩:=d.frzT hTT b f a
   exact bd (bc (aG (ac,ae) _ _ ⟨ad,N,Z,(SfT.mk' d (b.pick [4,6,2,5,0] Z) (f.pick [4,6,2,5,0] Z) a)⟩ (aK h D)) Z)
  refine aQ<|av<|av<|have h:=aI h D;aR<|ak<|aw<|aq<|ax [(1,c),(6,j),(7,g),(8,k),(9,i)] Z ?_
  refine aT (F.GF a1 A B) (fun (s:L0×L0) L w=>∃(t:Value) (u:Value),L=[(1,c),(6,j),(7,t),(8,k),(9,u)]/\SfT [] T m w [Q X u s.2,Q X k B,Q X t s.1,Q X j A,Q X c a1] []) ?_ (y,z) ⟨g,i,Z,(SfT.mk' d (b.pick [4,3,2,1,0] Z) (f.pick [4,3,2,1,0] Z) a)⟩ h
  rintro bs ⟨a3,a4⟩ L w bt x aM h E
  try dsimp only at x
  obtain⟨t,u,rfl,⟨bu,bb,d,b,f,a⟩⟩:=x
  unfold F.GF at h
  refine aw<|R<|V 1 Z<|J h fun bv aO h=>bf a Z (kn 0 aO ((b.rp 2 Z).b a.fr).rp) Z fun w a=>V 1 Z<|P ?_
  apply gl9 Z h<;>intro h
  ·refine gl5<|aq<|al<|V 1 Z<|J h fun ah aP h=>aV a Z (ko 1 aP ((b.rp 2 Z).b a.fr).rp) Z fun H w a=>V 2 Z<|J h fun aj aS h=>aV a Z (oF  aS ((b.rp 4 Z).b a.fr).rp ((b.rp 0 Z).b a.fr).rp) Z fun am w a=>V 2 Z<|aE<|aF ?_
   replace a:=a.pick (os':=[U X am aj,U X H ah]++[]) [0,1] (by decide) rfl
   obtain⟨bw,be,d,b,f,a⟩:=d.frzT hTT b f a
   exact bd (bc (aM (ah,aj) _ _ ⟨H,am,Z,(SfT.mk' d (b.pick [6,3,5,1,0] Z) (f.pick [6,3,5,1,0] Z) a)⟩ (aK h E)) Z)
  refine aQ<|av<|av<|have h:=aI h E;aR<|ak<|R<|V 2 Z<|J h fun bx aU h=>bf a Z (ic  aU ((b.rp 1 Z).b a.fr).rp ((b.rp 2 Z).b a.fr).rp) Z fun w a=>V 1 Z<|P ?_
  apply gl9 Z h<;>intro h
  ·refine R<|V 2 Z<|J h fun an aW h=>eI a Z (kJ  aW ((b.rp 1 Z).b a.fr).rp ((b.rp 2 Z).b a.fr).rp) Z fun ao w a=>V 4 Z<|P<|al<|V 3 Z<|J h fun ap aX h=>aV a Z (jZ  aX ((b.rp 3 Z).b a.fr).rp ((b.rp 4 Z).b a.fr).rp ((b.rp 0 Z).b a.fr).rp) Z fun ar w a=>V 1 Z<|aE<|aF ?_
   replace a:=a.pick (os':=[U X ar ap,U X ao an.1]++[]) [0,1] (by decide) rfl
   obtain⟨bz,bg,d,b,f,a⟩:=d.frzT hTT b f a
   exact bd (bc (C (an.1,a3,ap,a4) _ _ ⟨ao,t,ar,u,Z,(SfT.mk' d (b.pick [4,6,2,5,0] Z) (f.pick [4,6,2,5,0] Z) a)⟩ (aK h q)) Z)
  refine R<|V 2 Z<|J h fun au aY h=>eI a Z (kJ  aY ((b.rp 2 Z).b a.fr).rp ((b.rp 1 Z).b a.fr).rp) Z fun az w a=>V 4 Z<|P<|al<|V 3 Z<|J h fun aA aZ h=>aV a Z (jZ  aZ ((b.rp 4 Z).b a.fr).rp ((b.rp 3 Z).b a.fr).rp ((b.rp 0 Z).b a.fr).rp) Z fun aC w a=>V 1 Z<|aE<|aF ?_
  replace a:=a.pick (os':=[U X aC aA,U X az au.1]++[]) [0,1] (by decide) rfl
  obtain⟨bA,bh,d,b,f,a⟩:=d.frzT hTT b f a
  exact bd (bc (C (A,au.1,B,aA) _ _ ⟨j,az,k,aC,Z,(SfT.mk' d (b.pick [6,3,5,1,0] Z) (f.pick [6,3,5,1,0] Z) a)⟩ (aK h q)) Z)
 refine aQ<|av<|av<|have h:=aI h q;aR<|ak<|R<|V 4 Z<|P<|ay ?_
 cases h
 obtain⟨a8,hR⟩:=d.outT hTT b f a
 exact bY Z Z Z ⟨g,i,Z,a8,(hR.pick [4,2] Z)⟩
theorem vU {f:World} {a0 a1:L0} {c d:Value} {r:L0×Int}
  (h:F.Hp a0 a1=some r) (s:RP [] f X c a0) (t:RP [] f X d a1):Calls Tryz.prog 20 #[c,d] f (Ret fun v w=>∃u0:Value,v=.tuple #[u0,I r.2]/\St [] f w [U X u0 r.1]):=by
 refine aB 40 Tryz.func20 Z Z Z<|have a:=St.k f;have g:=Fz.k (S:=[]) (w0:=f);?_
 have hTT:TOk [] [] f:=TOk.nil
 have b:Rds [] f [Q X d a1,Q X c a0]:=M (RP.h (W Z) t) (M (RP.h (W Z) s) (Rds.nil))
 have i:Off [] [Q X d a1,Q X c a0]:=Off.emp
 refine ax [(0,c),(1,d)] Z ?_
 unfold F.Hp at h
 refine R<|V 2 Z<|P<|wm 0 Z<|R<|V 2 Z<|gl1<|R<|V 2 Z<|bC (cq (e:=eV) (l:=([SV.of c,SV.of d]:List SV)) (vs:=[c,d]) u98 kU Z Z Z (eQ ((b.rp 0 Z).b a.fr).sv (eQ ((b.rp 1 Z).b a.fr).sv Z)) (by decide) (by decide) a) Z fun u w a=>J h fun ab m h=>bf a Z (j6  m (a.ro 0 Z).rp ⟨((b.rp 0 Z).b a.fr).svrp,((b.rp 1 Z).b a.fr).svrp,trivial⟩) Z fun w a=>V 1 Z<|gl2<|V 2 Z<|P ?_
 apply gl9 Z h<;>intro h
 ·refine R<|V 3 Z<|gl8<|y9 ?_
  cases h
  replace a:=g.st a
  exact bY Z Z Z ⟨L3,Z,(a.nil X).d [0] Z Z⟩
 refine gl6<|V 2 Z<|J h fun x n h=>aV a Z (gG  n ((b.rp 0 Z).b a.fr).rp ((b.rp 1 Z).b a.fr).rp) Z fun y w a=>V 1 Z<|gl1<|R<|V 1 Z<|J h fun ac o h=>bf a Z (kn 0 o ((b.rp 1 Z).b a.fr).rp) Z fun w a=>P ?_
 apply gl9 Z h<;>intro h
 ·refine R<|V 2 Z ?_
  replace a:=a.pick (os':=[U X y x,U eV u ([SV.of c,SV.of d]:List SV)]++[]) [0,1] (by decide) rfl
  obtain⟨g,b,i,a⟩:=g.frzK hTT b i a
  refine J h fun ad p h=>aH Z (wF  p (g.okT hTT a) (b.i i 3 Z) (b.i i 1 Z)) Z ?_
  rintro _ w ⟨C,D,rfl,z,A⟩
  obtain⟨E,B,g,b,i,a⟩:=g.l b i a z A rfl
  refine V 5 Z<|P<|zF<|xb<|zu<|aw<|gl5<|aw<|R<|V 1 Z<|bC (cq (e:=X) (l:=([1]:L0)) (vs:=[v32 1]) u31 aN Z Z Z Z (by decide) (by decide) a) Z fun G w a=>J h fun L j h=>bf a Z (ic  j ((b.rp 4 Z).b a.fr).rp (a.ro 0 Z).rp) Z fun w a=>V 1 Z<|P ?_
  apply gl9 Z h<;>intro h
  ·refine R<|V 2 Z<|gl8<|tV ?_
   cases h
   replace a:=g.st a
   exact bY Z Z Z ⟨L3,Z,(a.nil X).d [0] Z Z⟩
  refine gl6<|V 2 Z<|J h fun T k h=>aV a Z (gG  k ((b.rp 5 Z).b a.fr).rp ((b.rp 1 Z).b a.fr).rp) Z fun q w a=>V 2 Z<|P<|ay<|tV ?_
  cases h
  replace a:=g.st a
  exact bY Z Z Z ⟨q,Z,a.d [0] Z Z⟩
 refine gl6<|V 2 Z ?_
 cases h
theorem py {f:World} {a0 a1 a2:L0} {b c d:Value} {r:L0×Int}
  (h:F.HP a0 a1 a2=some r) (g:RP [] f X b a0) (i:RP [] f X c a1) (j:RP [] f X d a2):Calls Tryz.prog 21 #[b,c,d] f (Ret fun v w=>∃u0:Value,v=.tuple #[u0,I r.2]/\St [] f w [U X u0 r.1]):=by
 refine aB 22 Tryz.func21 Z Z Z<|have a:=St.k f;ax [(0,b),(1,c),(2,d)] Z ?_
 unfold F.HP at h
 refine R<|V 2 Z<|gl1<|R<|V 3 Z<|bC (cq (e:=eV) (l:=([SV.of b,SV.of c,SV.of d]:List SV)) (vs:=[b,c,d]) u98 kU Z Z Z (eQ (g.b a.fr).sv (eQ (i.b a.fr).sv (eQ (j.b a.fr).sv Z))) (by decide) (by decide) a) Z fun p w a=>J h fun q k h=>bf a Z (j6  k (a.ro 0 Z).rp ⟨(g.b a.fr).svrp,(i.b a.fr).svrp,(j.b a.fr).svrp,trivial⟩) Z fun w a=>V 1 Z<|gl2<|V 2 Z<|P ?_
 apply gl9 Z h<;>intro h
 ·refine R<|V 3 Z<|gl8 ?_
  cases h
  exact bY Z Z Z ⟨L3,Z,(a.nil X).d [0] Z Z⟩
 refine gl6<|V 2 Z<|J h fun s m h=>aV a Z (xj  m (g.b a.fr).rp (i.b a.fr).rp) Z fun t w a=>V 1 Z<|J h fun u n h=>aV a Z (gG  n (a.ro 0 Z).rp (j.b a.fr).rp) Z fun o w a=>V 2 Z<|P<|ay ?_
 cases h
 exact bY Z Z Z ⟨o,Z,a.d [0] Z Z⟩
theorem we {g:World} {a0 a1 a2:L0} {b c d:Value} {r:L0×Int}
  (h:F.I0 a0 a1 a2=some r) (i:RP [] g X b a0) (j:RP [] g X c a1) (f:RP [] g X d a2):Calls Tryz.prog 32 #[b,c,d] g (Ret fun v w=>∃u0:Value,v=.tuple #[u0,I r.2]/\St [] g w [U X u0 r.1]):=by
 refine aB 25 Tryz.func32 Z Z Z<|have a:=St.k g;ax [(0,b),(1,c),(2,d)] Z ?_
 unfold F.I0 at h
 refine R<|V 2 Z<|gl1<|R<|V 3 Z<|bC (cq (e:=eV) (l:=([SV.of b,SV.of c,SV.of d]:List SV)) (vs:=[b,c,d]) u98 kU Z Z Z (eQ (i.b a.fr).sv (eQ (j.b a.fr).sv (eQ (f.b a.fr).sv Z))) (by decide) (by decide) a) Z fun s w a=>J h fun t m h=>bf a Z (j6  m (a.ro 0 Z).rp ⟨(i.b a.fr).svrp,(j.b a.fr).svrp,(f.b a.fr).svrp,trivial⟩) Z fun w a=>V 1 Z<|gl2<|V 2 Z<|P ?_
 apply gl9 Z h<;>intro h
 ·refine R<|V 3 Z<|gl8 ?_
  cases h
  exact bY Z Z Z ⟨L3,Z,(a.nil X).d [0] Z Z⟩
 refine gl6<|V 2 Z<|J h fun u n h=>aV a Z (gG  n (i.b a.fr).rp (f.b a.fr).rp) Z fun x w a=>V 2 Z<|J h fun y o h=>aV a Z (gG  o (j.b a.fr).rp (f.b a.fr).rp) Z fun z w a=>V 1 Z<|J h fun q k h=>aV a Z (jZ  k (a.ro 1 Z).rp (a.ro 0 Z).rp (f.b a.fr).rp) Z fun p w a=>V 2 Z<|P<|ay ?_
 cases h
 exact bY Z Z Z ⟨p,Z,a.d [0] Z Z⟩
end Go.Proofs
