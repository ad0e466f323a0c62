import Derived.Test.YtahgjafdhjbkeaaGreatDoorRW0
import Derived.Test.YtahgjafdhjbkeaaGreatDoorGkFman
import Derived.Test.YtahgjafdhjbkeaaGreatDoorRWnatb
set_option linter.unusedVariables false
set_option linter.unusedSimpArgs false
set_option linter.unusedSectionVars false
set_option maxRecDepth 4000
namespace Go.Proofs
open Go Go.RowKit Go.Gk
open Go.Gk renaming aa → V, af → J, ag → N, e32 → X, gl3 → Q, gl4 → R, own → U, red → P, vI → H
open Nat renaming le_of_ble_eq_true → W
open Go.Gk.Rds renaming cons → M
theorem un {b:World} {a0:List UInt32} {a:Value} {r:Int}
  (h:F.HC a0=some r) (e:RP [] b X a a0):Calls Tryz.prog 112 #[a] b (Ret fun v w=>v=H r∧St [] b w []):=by
 refine aB 7 Tryz.func112 Z Z Z<|have c:=St.k b;ax [(0,a)] Z ?_
 unfold F.HC at h
 refine R<|V 1 Z<|gl2<|V 1 Z<|J h fun f d h=>bc c Z (gq  d (e.b c.fr).rp) Z fun w c=>V 1 Z<|N (aj Z Z (dV _ (wI (f+31)) 32 (by decide))) Z<|V 1 Z<|Q<|az ?_
 cases h
 exact ay Z Z ⟨Z,c⟩
theorem ng {g:World} {a0:List (List UInt32)} {b:Value} {s0:List SV} {r:Int}
  (h:F.E7 a0=some r) (c:RP [] g eV b s0) (hl0:gL [] g X s0 a0):Calls Tryz.prog 52 #[b] g (Ret fun v w=>v=H r∧St [] g w []):=by
 refine aB 23 Tryz.func52 Z Z Z<|have a:=St.k g;ax [(0,b)] Z ?_
 unfold F.E7 at h
 refine R<|V 1 Z<|gl1<|R<|V 1 Z<|N (rA u98 Z (c.b a.fr) hl0.len) Z<|V 1 Z<|Q<|ar<|ax [(0,b),(5,b),(6,H (a0.length:Int)),(7,H 0)] Z ?_
 refine aT (F.Ed a0) (fun (s:Int) L w=>L=[(0,b),(5,b),(6,H (a0.length:Int)),(7,H s)]∧St [] g w []) ?_ 0 ⟨Z,a⟩ h
 rintro u p L w z q l h e
 try dsimp only at q
 obtain ⟨rfl,a⟩:=q
 unfold F.Ed at h
 refine R<|V 1 Z<|gl1 ?_
 refine gl9 Z h (fun h=>?_) (fun h=>?_)
 ·refine gl5<|av<|ar<|R<|J h fun A m h=>?_
  obtain ⟨x,f,j⟩:=hl0.get m
  refine N (bk u98 lH Z Z (c.b a.fr) f) Z<|N (a8 u31 Z Z (c.b a.fr) f Z) Z<|V 1 Z<|gl2<|V 1 Z<|J h fun B n h=>bc a Z (un  n (j.b a.fr).rp) Z fun w a=>V 1 Z<|Q ?_
  refine gl9 Z h (fun h=>?_) (fun h=>?_)
  ·refine R<|V 1 Z<|Q<|az<|bA<|aW<|aW<|have h:=aI h e;bA<|aW ?_
   cases h
   exact ay Z Z ⟨Z,a⟩
  exact cd<|aF<|ak<|al<|V 2 Z<|aE<|bf (bd (l (wI (p+1)) _ _ ⟨Z,a⟩ (aL h e)) Z)
 refine aQ<|au<|au<|have h:=aI h e;aR<|ak<|av<|R<|V 2 Z<|N (rA u98 Z (c.b a.fr) hl0.len) Z<|V 1 Z<|J h fun C o h=>?_
 obtain ⟨t,d,i⟩:=hl0.get o
 refine N (bk u98 lH Z Z (c.b a.fr) d) Z<|N (a8 u31 Z Z (c.b a.fr) d Z) Z<|J h fun y k h=>bc a Z (gq  k (i.b a.fr).rp) Z fun w a=>V 1 Z<|Q ?_
 refine gl9 Z h (fun h=>?_) (fun h=>?_)
 ·refine R<|V 1 Z<|gl8 ?_
  cases h
  exact ay Z Z ⟨Z,a⟩
 refine gl6<|V 1 Z<|Q<|az ?_
 cases h
 exact ay Z Z ⟨Z,a⟩
theorem kF {a:World} {a0 a1:List UInt32} {b c:Value} {r:List UInt32}
  (h:F.EO a0 a1=some r) (f:RP [] a X b a0) (g:RP [] a X c a1):Calls Tryz.prog 53 #[b,c] a (Ret fun v w=>St [] a w [U X v r]):=by
 refine aB 16 Tryz.func53 Z Z Z<|have d:=St.k a;ax [(0,b),(1,c)] Z ?_
 unfold F.EO at h
 refine R<|V 1 Z<|gl2<|V 2 Z<|J h fun i e h=>bH d Z (mX  e (f.b d.fr).rp (g.b d.fr).rp) Z fun j k w d=>V 7 Z<|gl2<|V 2 Z<|Q<|az ?_
 cases h
 exact ay Z Z (d.d [1] Z Z)
theorem oq {b:World} {a0 a1:List UInt32} {c d:Value} {r:List UInt32}
  (h:F.GB a0 a1=some r) (e:RP [] b X c a0) (k:RP [] b X d a1):Calls Tryz.prog 114 #[c,d] b (Ret fun v w=>St [] b w [U X v r]):=by
 refine aB 12 Tryz.func114 Z Z Z<|have a:=St.k b;ax [(0,c),(1,d)] Z ?_
 unfold F.GB at h
 refine R<|V 1 Z<|gl1<|R<|V 1 Z<|J h fun p i h=>bc a Z (ke 0 i (e.b a.fr).rp) Z fun w a=>Q ?_
 refine gl9 Z h (fun h=>?_) (fun h=>?_)
 ·refine al<|V 2 Z<|J h fun q j h=>aU a Z (qL  j (e.b a.fr).rp (k.b a.fr).rp) Z fun s w a=>V 1 Z<|gl2<|V 1 Z<|J h fun l f h=>aU a Z (kf 1 f (a.ro 0 Z).rp) Z fun m w a=>V 1 Z<|Q<|az ?_
  cases h
  exact ay Z Z (a.d [0] Z Z)
 refine gl6<|V 1 Z<|J h fun n g h=>aU a Z (kf 1 g (e.b a.fr).rp) Z fun o w a=>V 1 Z<|Q<|az ?_
 cases h
 exact ay Z Z (a.d [0] Z Z)
theorem mU {b:World} {a0 a1 a2:List UInt32} {e f i:Value} {r:List UInt32}
  (h:F.GW a0 a1 a2=some r) (j:RP [] b X e a0) (k:RP [] b X f a1) (o:RP [] b X i a2):Calls Tryz.prog 71 #[e,f,i] b (Ret fun v w=>St [] b w [U X v r]):=by
 refine aB 26 Tryz.func71 Z Z Z<|have a:=St.k b;ax [(0,e),(1,f),(2,i)] Z ?_
 unfold F.GW at h
 refine R<|V 1 Z<|gl2<|V 2 Z<|J h fun p l h=>eW a Z (kz  l (j.b a.fr).rp (k.b a.fr).rp) Z fun q w a=>V 5 Z<|Q ?_
 refine aZ (r:=r) (fun (g:List UInt32) L w=>∃(c:Value),L=[(7,c)]∧St [] b w [U X c g]) (F.Il) ?_ ?_
 rotate_left
 ·intro d
  refine R<|V 2 Z<|Q ?_
  refine gl9 Z h (fun h=>?_) (fun h=>?_)
  ·exact al<|V 2 Z<|J h fun y m h=>aU a Z (qL  m (j.b a.fr).rp (o.b a.fr).rp) Z fun z w a=>V 1 Z<|J h fun s n h=>eW a Z (kz  n (a.ro 0 Z).rp (k.b a.fr).rp) Z fun t w a=>V 4 Z<|Q<|aH (d s.1 _ _ ⟨t,Z,(a.d [0] Z Z)⟩ h) Z
  exact gl5<|aH (d p.1 _ _ ⟨q,Z,a⟩ h) Z
 rintro x L w u h
 try dsimp only at u
 obtain ⟨c,rfl,a⟩:=u
 unfold F.Il at h
 refine R<|V 2 Z<|Q<|az ?_
 cases h
 exact ay Z Z (a.d [0] Z Z)
theorem v7 {m:World} {a0 a1:List UInt32} {p c:Value} {T:List Nat} {r:List UInt32×List UInt32}
  (h:F.Hj a0 a1=some r) (hTT:TOk [] T m) (a5:RP T m X p a0) (a6:RP T m X c a1):Calls Tryz.prog 55 #[p,c] m (Ret fun v w=>∃u0:Value,∃u1:Value,v=.tuple #[u0,u1]∧St [] m w []∧Rds T w [P X u1 r.2,P X u0 r.1]):=by
 refine aB 59 Tryz.func55 Z Z Z<|have a:=St.k m;have d:=Fz.k (S:=[]) (w0:=m);?_
 have hA0:Rds T m [P X c a1,P X p a0]:=M (RP.h (W Z) a6) (M (RP.h (W Z) a5) (Rds.nil))
 have b:=hA0.all
 have f:=hA0.off Z
 refine ax [(0,p),(1,c)] Z ?_
 unfold F.Hj at h
 refine R<|V 2 Z<|gl2<|V 4 Z<|gl2<|bG (cp (e:=X) (l:=([1]:List UInt32)) (vs:=[v32 1]) u31 aN Z Z Z Z (by decide) (by decide) a) Z fun G w a=>bG (yO (e:=X) u31 aN a) Z fun ab w a=>V 2 Z<|gl1<|ar ?_
 replace a:=a.pick (os':=[U X ab [],U X G ([1]:List UInt32)]++[]) [0,1] (by decide) rfl
 obtain ⟨bC,bi,d,b,f,a⟩:=d.frzT hTT b f a
 refine ax [(1,c),(6,p),(7,c),(8,G),(9,ab)] Z ?_
 refine aT (F.Fl a1) (fun (s:List UInt32×List UInt32×List UInt32×List UInt32) L w=>∃(n:Value) (g:Value) (o:Value) (i:Value),L=[(1,c),(6,n),(7,g),(8,o),(9,i)]∧SfT [] T m w [P X i s.2.2.2,P X o s.2.2.1,P X g s.2.1,P X n s.1,P X c a1] []) ?_ (a0,a1,([1]:List UInt32),[]) ⟨p,c,G,ab,Z,(SfT.mk' d (b.pick [3,2,1,0,1] Z) (f.pick [3,2,1,0,1] Z) a)⟩ h
 rintro bj ⟨a7,y,a2,z⟩ L w bk x C h q
 try dsimp only at x
 obtain ⟨n,g,o,i,rfl,⟨bD,bl,d,b,f,a⟩⟩:=x
 unfold F.Fl at h
 refine av<|R<|V 1 Z<|J h fun bm aD h=>bc a Z (gq  aD ((b.rp 1 Z).b a.fr).rp) Z fun w a=>V 1 Z<|Q ?_
 refine gl9 Z h (fun h=>?_) (fun h=>?_)
 ·refine gl5<|ar<|av<|ar<|ax [(1,c),(6,n),(7,g),(8,o),(9,i)] Z ?_
  refine aT (F.GY a1 y z) (fun (s:List UInt32×List UInt32) L w=>∃(j:Value) (k:Value),L=[(1,c),(6,j),(7,g),(8,k),(9,i)]∧SfT [] T m w [P X i z,P X k s.2,P X g y,P X j s.1,P X c a1] []) ?_ (a7,a2) ⟨n,o,Z,(SfT.mk' d (b.pick [4,3,2,1,0] Z) (f.pick [4,3,2,1,0] Z) a)⟩ h
  rintro bn ⟨A,B⟩ L w bo x aG h D
  try dsimp only at x
  obtain ⟨j,k,rfl,⟨bp,a9,d,b,f,a⟩⟩:=x
  unfold F.GY at h
  refine av<|R<|V 1 Z<|J h fun bq aH h=>bc a Z (ke 0 aH ((b.rp 1 Z).b a.fr).rp) Z fun w a=>V 1 Z<|Q ?_
  refine gl9 Z h (fun h=>?_) (fun h=>?_)
  ·refine gl5<|ar<|al<|V 1 Z<|J h fun ac aJ h=>aU a Z (kf 1 aJ ((b.rp 1 Z).b a.fr).rp) Z fun ad w a=>V 2 Z<|J h fun ae aK h=>aU a Z (oq  aK ((b.rp 3 Z).b a.fr).rp ((b.rp 0 Z).b a.fr).rp) Z fun N w a=>V 2 Z<|aE<|aF ?_
   replace a:=a.pick (os':=[U X N ae,U X ad ac]++[]) [0,1] (by decide) rfl
   obtain ⟨br,ba,d,b,f,a⟩:=d.frzT hTT b f a
   exact bf (bd (aG (ac,ae) _ _ ⟨ad,N,Z,(SfT.mk' d (b.pick [4,6,2,5,0] Z) (f.pick [4,6,2,5,0] Z) a)⟩ (aL h D)) Z)
  refine aQ<|au<|au<|have h:=aI h D;aR<|ak<|av<|ar<|ax [(1,c),(6,j),(7,g),(8,k),(9,i)] Z ?_
  refine aT (F.F3 a1 A B) (fun (s:List UInt32×List UInt32) L w=>∃(t:Value) (u:Value),L=[(1,c),(6,j),(7,t),(8,k),(9,u)]∧SfT [] T m w [P X u s.2,P X k B,P X t s.1,P X j A,P X c a1] []) ?_ (y,z) ⟨g,i,Z,(SfT.mk' d (b.pick [4,3,2,1,0] Z) (f.pick [4,3,2,1,0] Z) a)⟩ h
  rintro bs ⟨a3,a4⟩ L w bt x aM h E
  try dsimp only at x
  obtain ⟨t,u,rfl,⟨bu,bb,d,b,f,a⟩⟩:=x
  unfold F.F3 at h
  refine av<|R<|V 1 Z<|J h fun bv aO h=>bc a Z (ke 0 aO ((b.rp 2 Z).b a.fr).rp) Z fun w a=>V 1 Z<|Q ?_
  refine gl9 Z h (fun h=>?_) (fun h=>?_)
  ·refine gl5<|ar<|al<|V 1 Z<|J h fun ah aP h=>aU a Z (kf 1 aP ((b.rp 2 Z).b a.fr).rp) Z fun ai w a=>V 2 Z<|J h fun aj aS h=>aU a Z (oq  aS ((b.rp 4 Z).b a.fr).rp ((b.rp 0 Z).b a.fr).rp) Z fun am w a=>V 2 Z<|aE<|aF ?_
   replace a:=a.pick (os':=[U X am aj,U X ai ah]++[]) [0,1] (by decide) rfl
   obtain ⟨bw,be,d,b,f,a⟩:=d.frzT hTT b f a
   exact bf (bd (aM (ah,aj) _ _ ⟨ai,am,Z,(SfT.mk' d (b.pick [6,3,5,1,0] Z) (f.pick [6,3,5,1,0] Z) a)⟩ (aL h E)) Z)
  refine aQ<|au<|au<|have h:=aI h E;aR<|ak<|R<|V 2 Z<|J h fun bx aV h=>bc a Z (gX  aV ((b.rp 1 Z).b a.fr).rp ((b.rp 2 Z).b a.fr).rp) Z fun w a=>V 1 Z<|Q ?_
  refine gl9 Z h (fun h=>?_) (fun h=>?_)
  ·refine R<|V 2 Z<|J h fun an aW h=>eW a Z (kz  aW ((b.rp 1 Z).b a.fr).rp ((b.rp 2 Z).b a.fr).rp) Z fun ao w a=>V 4 Z<|Q<|al<|V 3 Z<|J h fun ap aX h=>aU a Z (mU  aX ((b.rp 3 Z).b a.fr).rp ((b.rp 4 Z).b a.fr).rp ((b.rp 0 Z).b a.fr).rp) Z fun aq w a=>V 1 Z<|aE<|aF ?_
   replace a:=a.pick (os':=[U X aq ap,U X ao an.1]++[]) [0,1] (by decide) rfl
   obtain ⟨bz,bg,d,b,f,a⟩:=d.frzT hTT b f a
   exact bf (bd (C (an.1,a3,ap,a4) _ _ ⟨ao,t,aq,u,Z,(SfT.mk' d (b.pick [4,6,2,5,0] Z) (f.pick [4,6,2,5,0] Z) a)⟩ (aL h q)) Z)
  refine R<|V 2 Z<|J h fun aw aY h=>eW a Z (kz  aY ((b.rp 2 Z).b a.fr).rp ((b.rp 1 Z).b a.fr).rp) Z fun ay w a=>V 4 Z<|Q<|al<|V 3 Z<|J h fun aA aZ h=>aU a Z (mU  aZ ((b.rp 4 Z).b a.fr).rp ((b.rp 3 Z).b a.fr).rp ((b.rp 0 Z).b a.fr).rp) Z fun aC w a=>V 1 Z<|aE<|aF ?_
  replace a:=a.pick (os':=[U X aC aA,U X ay aw.1]++[]) [0,1] (by decide) rfl
  obtain ⟨bA,bh,d,b,f,a⟩:=d.frzT hTT b f a
  exact bf (bd (C (A,aw.1,B,aA) _ _ ⟨j,ay,k,aC,Z,(SfT.mk' d (b.pick [6,3,5,1,0] Z) (f.pick [6,3,5,1,0] Z) a)⟩ (aL h q)) Z)
 refine aQ<|au<|au<|have h:=aI h q;aR<|ak<|R<|V 4 Z<|Q<|az ?_
 cases h
 obtain ⟨a8,hR⟩:=d.outT hTT b f a
 exact cf Z Z Z ⟨g,i,Z,a8,(hR.pick [4,2] Z)⟩
theorem vl {f:World} {a0 a1:List UInt32} {c d:Value} {r:List UInt32×Int}
  (h:F.GL a0 a1=some r) (s:RP [] f X c a0) (t:RP [] f X d a1):Calls Tryz.prog 20 #[c,d] f (Ret fun v w=>∃u0:Value,v=.tuple #[u0,H r.2]∧St [] f w [U X u0 r.1]):=by
 refine aB 40 Tryz.func20 Z Z Z<|have a:=St.k f;have g:=Fz.k (S:=[]) (w0:=f);?_
 have hTT:TOk [] [] f:=TOk.nil
 have b:Rds [] f [P X d a1,P X c a0]:=M (RP.h (W Z) t) (M (RP.h (W Z) s) (Rds.nil))
 have i:Off [] [P X d a1,P X c a0]:=Off.emp
 refine ax [(0,c),(1,d)] Z ?_
 unfold F.GL at h
 refine R<|V 2 Z<|Q<|vJ 0 Z<|R<|V 2 Z<|gl1<|R<|V 2 Z<|bG (cp (e:=eV) (l:=([SV.of c,SV.of d]:List SV)) (vs:=[c,d]) u98 lH Z Z Z (fH ((b.rp 0 Z).b a.fr).sv (fH ((b.rp 1 Z).b a.fr).sv Z)) (by decide) (by decide) a) Z fun u w a=>J h fun ab m h=>bc a Z (ng  m (a.ro 0 Z).rp ⟨((b.rp 0 Z).b a.fr).svrp,((b.rp 1 Z).b a.fr).svrp,I⟩) Z fun w a=>V 1 Z<|gl2<|V 2 Z<|Q ?_
 refine gl9 Z h (fun h=>?_) (fun h=>?_)
 ·refine R<|V 3 Z<|gl8<|yA ?_
  cases h
  replace a:=g.st a
  exact cf Z Z Z ⟨.slice none 0 0,Z,(a.nil X).d [0] Z Z⟩
 refine gl6<|V 2 Z<|J h fun x n h=>aU a Z (kF  n ((b.rp 0 Z).b a.fr).rp ((b.rp 1 Z).b a.fr).rp) Z fun y w a=>V 1 Z<|gl1<|R<|V 1 Z<|J h fun ac o h=>bc a Z (ke 0 o ((b.rp 1 Z).b a.fr).rp) Z fun w a=>Q ?_
 refine gl9 Z h (fun h=>?_) (fun h=>?_)
 ·refine R<|V 2 Z ?_
  replace a:=a.pick (os':=[U X y x,U eV u ([SV.of c,SV.of d]:List SV)]++[]) [0,1] (by decide) rfl
  obtain ⟨g,b,i,a⟩:=g.frzK hTT b i a
  refine J h fun ad p h=>aG Z (v7  p (g.okT hTT a) (b.i i 3 Z) (b.i i 1 Z)) Z ?_
  rintro _ w ⟨C,D,rfl,z,A⟩
  obtain ⟨E,B,g,b,i,a⟩:=g.l b i a z A rfl
  refine V 5 Z<|Q<|zd<|wE<|yX<|av<|gl5<|av<|R<|V 1 Z<|bG (cp (e:=X) (l:=([1]:List UInt32)) (vs:=[v32 1]) u31 aN Z Z Z Z (by decide) (by decide) a) Z fun G w a=>J h fun L j h=>bc a Z (gX  j ((b.rp 4 Z).b a.fr).rp (a.ro 0 Z).rp) Z fun w a=>V 1 Z<|Q ?_
  refine gl9 Z h (fun h=>?_) (fun h=>?_)
  ·refine R<|V 2 Z<|gl8<|tv ?_
   cases h
   replace a:=g.st a
   exact cf Z Z Z ⟨.slice none 0 0,Z,(a.nil X).d [0] Z Z⟩
  refine gl6<|V 2 Z<|J h fun T k h=>aU a Z (kF  k ((b.rp 5 Z).b a.fr).rp ((b.rp 1 Z).b a.fr).rp) Z fun q w a=>V 2 Z<|Q<|az<|tv ?_
  cases h
  replace a:=g.st a
  exact cf Z Z Z ⟨q,Z,a.d [0] Z Z⟩
 refine gl6<|V 2 Z ?_
 cases h
theorem o9 {f:World} {a0 a1 a2:List UInt32} {b c d:Value} {r:List UInt32×Int}
  (h:F.Hc a0 a1 a2=some r) (g:RP [] f X b a0) (i:RP [] f X c a1) (j:RP [] f X d a2):Calls Tryz.prog 21 #[b,c,d] f (Ret fun v w=>∃u0:Value,v=.tuple #[u0,H r.2]∧St [] f w [U X u0 r.1]):=by
 refine aB 22 Tryz.func21 Z Z Z<|have a:=St.k f;ax [(0,b),(1,c),(2,d)] Z ?_
 unfold F.Hc at h
 refine R<|V 2 Z<|gl1<|R<|V 3 Z<|bG (cp (e:=eV) (l:=([SV.of b,SV.of c,SV.of d]:List SV)) (vs:=[b,c,d]) u98 lH Z Z Z (fH (g.b a.fr).sv (fH (i.b a.fr).sv (fH (j.b a.fr).sv Z))) (by decide) (by decide) a) Z fun p w a=>J h fun q k h=>bc a Z (ng  k (a.ro 0 Z).rp ⟨(g.b a.fr).svrp,(i.b a.fr).svrp,(j.b a.fr).svrp,I⟩) Z fun w a=>V 1 Z<|gl2<|V 2 Z<|Q ?_
 refine gl9 Z h (fun h=>?_) (fun h=>?_)
 ·refine R<|V 3 Z<|gl8 ?_
  cases h
  exact cf Z Z Z ⟨.slice none 0 0,Z,(a.nil X).d [0] Z Z⟩
 refine gl6<|V 2 Z<|J h fun s m h=>aU a Z (wO  m (g.b a.fr).rp (i.b a.fr).rp) Z fun t w a=>V 1 Z<|J h fun u n h=>aU a Z (kF  n (a.ro 0 Z).rp (j.b a.fr).rp) Z fun o w a=>V 2 Z<|Q<|az ?_
 cases h
 exact cf Z Z Z ⟨o,Z,a.d [0] Z Z⟩
end Go.Proofs
