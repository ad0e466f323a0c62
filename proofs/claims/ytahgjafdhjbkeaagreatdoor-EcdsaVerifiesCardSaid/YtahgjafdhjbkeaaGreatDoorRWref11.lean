import Derived.Test.YtahgjafdhjbkeaaGreatDoorRW0
import Derived.Test.YtahgjafdhjbkeaaGreatDoorGkFman
import Derived.Test.YtahgjafdhjbkeaaGreatDoorRWref6
import Derived.Test.YtahgjafdhjbkeaaGreatDoorRWref7
set_option linter.unusedVariables false
set_option linter.unusedSimpArgs false
set_option linter.unusedSectionVars false
set_option maxRecDepth 4000
namespace Go.Proofs
open Go Go.RowKit Go.Gk
open Go.Gk renaming aa → V, af → J, ag → N, e32 → X, gl3 → Q, gl4 → R, own → U, pB → O, vB → K, vI → H
open Go.Gk.OE renaming bx → Y
theorem eY {a:World} (a0:Int) {r:Int}
  (h:F.Dv a0=some r) :Calls Tryz.prog 26 #[H a0] a (Ret fun v w=>v=H r∧St [] a w []):=by
 refine aB 8 Tryz.func26 Z Z Z<|have b:=St.k a;ax [(0,H a0)] Z ?_
 unfold F.Dv at h
 refine R<|V 1 Z<|gl1<|R<|V 1 Z<|Q<|ar<|R<|V 2 Z<|Q ?_
 refine gl9 Z h (fun h=>?_) (fun h=>?_)
 ·refine R<|V 1 Z<|Q<|az<|bA<|aW ?_
  cases h
  exact ay Z Z ⟨Z,b⟩
 refine R<|V 2 Z<|Q ?_
 refine gl9 Z h (fun h=>?_) (fun h=>?_)
 ·refine R<|V 1 Z<|Q<|az<|bA<|aW ?_
  cases h
  exact ay Z Z ⟨Z,b⟩
 refine cd<|aF<|ak<|R<|V 1 Z<|Q<|az ?_
 cases h
 exact ay Z Z ⟨Z,b⟩
theorem kW {j:World} {a0:List UInt32} {b:Value} {r:List UInt32}
  (h:F.E4 a0=some r) (f:RP [] j X b a0):Calls Tryz.prog 74 #[b] j (Ret fun v w=>St [] j w [U X v r]):=by
 refine aB 33 Tryz.func74 Z Z Z<|have a:=St.k j;ax [(0,b)] Z ?_
 unfold F.E4 at h
 refine R<|V 1 Z<|gl2<|V 1 Z<|gl2<|V 1 Z<|N (aC u31 Z (f.b a.fr)) Z<|V 1 Z<|gl1<|ar<|ax [(0,b),(3,.slice none 0 0),(4,H (a0.length:Int))] Z ?_
 refine aT (F.Is a0) (fun (s:Int) L w=>L=[(0,b),(3,.slice none 0 0),(4,H s)]∧St [] j w []) ?_ (a0.length:Int) ⟨Z,a⟩ h
 rintro T c L w G o B h p
 try dsimp only at o
 obtain ⟨rfl,a⟩:=o
 unfold F.Is at h
 refine av ?_
 refine aZ (r:=G) (fun (g:Bool) L w=>L=[(0,b),(3,.slice none 0 0),(4,H c),(17,K g)]∧St [] j w []) (F.Ik c a0) ?_ ?_
 rotate_left
 ·intro q
  refine al<|V 3 Z ?_
  cases d:(decide ((0:Int)<c))
  case true=>
   have h:=cH h d
   try simp only [d]
   exact V 3 Z<|J h fun A u h=>bE (t:=10) Z Z (bk u31 aN Z Z (f.b a.fr) u) Z<|bE (t:=10) Z Z (a8 u38 Z Z (f.b a.fr) u Z) Z<|bE (t:=10) Z Z (aj Z Z (jF _ A 0)) Z<|V 1 Z<|Q<|aH (q (A == 0) _ _ ⟨Z,a⟩ h) Z
  case false=>
   have h:=cI h d
   try simp only [d]
   exact V 7 Z<|Q<|aH (q false _ _ ⟨Z,a⟩ h) Z
 rintro ae L w S h
 try dsimp only at S
 obtain ⟨rfl,a⟩:=S
 unfold F.Ik at h
 refine gl9 Z h (fun h=>?_) (fun h=>?_)
 ·exact gl5<|ar<|al<|V 3 Z<|aE<|aF<|bf (bd (B (wI (c - 1)) _ _ ⟨Z,a⟩ (aL h p)) Z)
 refine aQ<|au<|au<|have h:=aI h p;aR<|ak<|av<|R<|V 1 Z<|Q<|ar<|ax [(0,b),(3,.slice none 0 0),(4,H c),(5,H 0)] Z ?_
 refine aT (F.Eg a0 c) (fun (s:List UInt32×Int) L w=>∃(k:Value),L=[(0,b),(3,k),(4,H c),(5,H s.2)]∧St [] j w [U X k s.1]) ?_ ([],0) ⟨.slice none 0 0,Z,(a.nil X)⟩ h
 rintro ab ⟨ah,C⟩ L w ac o y h m
 try dsimp only at o
 obtain ⟨k,rfl,a⟩:=o
 unfold F.Eg at h
 refine av<|R<|V 3 Z<|Q ?_
 refine gl9 Z h (fun h=>?_) (fun h=>?_)
 ·exact gl5<|av<|ar<|al<|V 3 Z<|J h fun x n h=>N (bk u31 aN Z Z (f.b a.fr) n) Z<|N (a8 u38 Z Z (f.b a.fr) n Z) Z<|bG (cp (e:=X) (l:=([x]:List UInt32)) (vs:=[v32 x]) u31 aN Z Z Z Z (by decide) (by decide) a) Z fun ad w a=>J h fun D z h=>bG (dG u31 aN Z Z Z a (i:=1) Z (a.ro 0 Z) z) Z fun E w a=>V 1 Z<|aE<|aF<|ak<|al<|V 3 Z<|aE<|bf (bd (y (D,wI (C+1)) _ _ ⟨E,Z,(a.d [1] Z Z)⟩ (aL h m)) Z)
 refine aQ<|au<|au<|have h:=aI h m;aR<|ak<|R<|V 2 Z<|Q<|az ?_
 cases h
 exact ay Z Z (a.d [0] Z Z)
theorem rs {a:World} (a0:UInt8) {r:UInt32}
  (h:F.HM a0=some r) :Calls Tryz.prog 136 #[v8 a0] a (Ret fun v w=>v=v32 r∧St [] a w []):=by
 refine aB 12 Tryz.func136 Z Z Z<|have b:=St.k a;ax [(0,v8 a0)] Z ?_
 unfold F.HM at h
 refine R<|V 1 Z<|gl1<|R<|V 1 Z<|N (aj Z Z (pI _ a0 97)) Z<|Q ?_
 refine gl9 Z h (fun h=>?_) (fun h=>?_)
 ·refine R<|V 1 Z<|N (aj Z Z (nu _ a0 97)) Z<|N (aD Z (eM Tryz.underlying5 u38 (a0 - 97))) Z<|N (aj Z Z (cT _ ((a0 - 97).toUInt32) 10)) Z<|V 1 Z<|gl8 ?_
  cases h
  exact ay Z Z ⟨Z,b⟩
 refine gl6<|V 1 Z<|N (aj Z Z (nu _ a0 48)) Z<|N (aD Z (eM Tryz.underlying5 u38 (a0 - 48))) Z<|V 1 Z<|Q<|az ?_
 cases h
 exact ay Z Z ⟨Z,b⟩
theorem dz {g:World} (a0:List UInt8) {r:List UInt32}
  (h:F.C3 a0=some r) :Calls Tryz.prog 81 #[vS a0] g (Ret fun v w=>St [] g w [U X v r]):=by
 refine aB 32 Tryz.func81 Z Z Z<|have a:=St.k g;ax [(0,vS a0)] Z ?_
 unfold F.C3 at h
 refine R<|V 1 Z<|gl2<|V 1 Z<|gl1<|R<|V 1 Z<|N (j7 Tryz.underlying9 Z) Z<|V 1 Z<|Q<|ar<|ax [(0,vS a0),(3,.slice none 0 0),(4,H (a0.length:Int))] Z ?_
 refine aT (F.E6 a0) (fun (s:List UInt32×Int) L w=>∃(b:Value),L=[(0,vS a0),(3,b),(4,H s.2)]∧St [] g w [U X b s.1]) ?_ ([],(a0.length:Int)) ⟨.slice none 0 0,Z,(a.nil X)⟩ h
 rintro B ⟨t,c⟩ L w G j u h k
 try dsimp only at j
 obtain ⟨b,rfl,a⟩:=j
 unfold F.E6 at h
 refine av<|R<|V 2 Z<|Q ?_
 refine gl9 Z h (fun h=>?_) (fun h=>?_)
 ·refine gl5<|av<|ar<|R<|V 1 Z<|gl1<|R<|V 3 Z<|Q<|ar<|ax [(0,vS a0),(3,b),(4,H c),(5,v32 0),(6,H (wI (c - 8)))] Z ?_
  refine aT (F.Es a0 t c) (fun (s:UInt32×Int) L w=>L=[(0,vS a0),(3,b),(4,H c),(5,v32 s.1),(6,H s.2)]∧St [] g w [U X b t]) ?_ (0,wI (c - 8)) ⟨Z,a⟩ h
  rintro C ⟨d,A⟩ L w D j n h f
  try dsimp only at j
  obtain ⟨rfl,a⟩:=j
  unfold F.Es at h
  refine av<|R<|V 3 Z<|Q ?_
  refine gl9 Z h (fun h=>?_) (fun h=>?_)
  ·exact gl5<|av<|ar<|al<|V 1 Z<|N (aj Z Z (uM _ 16 d)) Z<|V 2 Z<|J h fun x o h=>N (kw Tryz.underlying9 Z Z o) Z<|J h fun m p h=>bc a Z (rs x p ) Z fun w a=>N (aj Z Z (cT _ (16*d) m)) Z<|V 1 Z<|aE<|aF<|ak<|al<|V 3 Z<|aE<|bf (bd (n ((16*d)+m,wI (A+1)) _ _ ⟨Z,a⟩ (aL h f)) Z)
  exact aQ<|au<|au<|have h:=aI h f;aR<|ak<|al<|V 2 Z<|bG (cp (e:=X) (l:=([d]:List UInt32)) (vs:=[v32 d]) u31 aN Z Z Z Z (by decide) (by decide) a) Z fun E w a=>J h fun y q h=>bG (dG u31 aN Z Z Z a (i:=1) Z (a.ro 0 Z) q) Z fun z w a=>V 1 Z<|aE<|aF<|ak<|al<|V 3 Z<|aE<|bf (bd (u (y,wI (c - 8)) _ _ ⟨z,Z,(a.d [1] Z Z)⟩ (aL h k)) Z)
 refine aQ<|au<|au<|have h:=aI h k;aR<|ak<|R<|V 2 Z<|Q<|az ?_
 cases h
 exact ay Z Z (a.d [0] Z Z)
theorem fe {b:World} (a0:Int) {r:List UInt32}
  (h:F.DA a0=some r) :Calls Tryz.prog 76 #[H a0] b (Ret fun v w=>St [] b w [U X v r]):=by
 refine aB 10 Tryz.func76 Z Z Z<|have a:=St.k b;ax [(0,H a0)] Z ?_
 unfold F.DA at h
 refine R<|V 1 Z<|gl1<|R<|V 1 Z<|Q<|ar<|R<|V 2 Z<|Q ?_
 refine gl9 Z h (fun h=>?_) (fun h=>?_)
 ·refine R<|J h fun e c h=>aU a Z (dz [102,102,102,102,102,102,102,102,48,48,48,48,48,48,48,49,48,48,48,48,48,48,48,48,48,48,48,48,48,48,48,48,48,48,48,48,48,48,48,48,102,102,102,102,102,102,102,102,102,102,102,102,102,102,102,102,102,102,102,102,102,102,102,102] c ) Z fun f w a=>V 1 Z<|Q<|az<|bA<|aW ?_
  cases h
  exact ay Z Z (a.d [0] Z Z)
 refine R<|V 2 Z<|Q ?_
 refine gl9 Z h (fun h=>?_) (fun h=>?_)
 ·refine R<|J h fun g d h=>aU a Z (dz [102,102,102,102,102,102,102,102,102,102,102,102,102,102,102,102,102,102,102,102,102,102,102,102,102,102,102,102,102,102,102,102,102,102,102,102,102,102,102,102,102,102,102,102,102,102,102,102,102,102,102,102,102,102,102,102,102,102,102,102,102,102,102,101,102,102,102,102,102,102,102,102,48,48,48,48,48,48,48,48,48,48,48,48,48,48,48,48,102,102,102,102,102,102,102,102] d ) Z fun i w a=>V 1 Z<|Q<|az<|bA<|aW ?_
  cases h
  exact ay Z Z (a.d [0] Z Z)
 refine cd<|aF<|ak<|R<|V 1 Z<|Q<|az ?_
 cases h
 exact ay Z Z ((a.nil X).d [0] Z Z)
theorem i3 {b:World} {a1 a2:List UInt32} {c d:Value} (a0:Int) {r:List UInt32}
  (h:F.Em a0 a1 a2=some r) (g:RP [] b X c a1) (i:RP [] b X d a2):Calls Tryz.prog 79 #[H a0,c,d] b (Ret fun v w=>St [] b w [U X v r]):=by
 refine aB 18 Tryz.func79 Z Z Z<|have a:=St.k b;ax [(0,H a0),(1,c),(2,d)] Z ?_
 unfold F.Em at h
 refine R<|V 1 Z<|gl2<|V 3 Z<|J h fun j e h=>aU a Z (fe a0 e ) Z fun k w a=>J h fun l f h=>eW a Z (lg  f (g.b a.fr).rp (i.b a.fr).rp (a.ro 0 Z).rp) Z fun m w a=>V 5 Z<|gl2<|V 2 Z<|Q<|az ?_
 cases h
 exact ay Z Z (a.d [0] Z Z)
theorem uh {b:World} {a1 a2:List UInt32} {c d:Value} (a0:Int) {r:List UInt32}
  (h:F.Hk a0 a1 a2=some r) (g:RP [] b X c a1) (i:RP [] b X d a2):Calls Tryz.prog 78 #[H a0,c,d] b (Ret fun v w=>St [] b w [U X v r]):=by
 refine aB 18 Tryz.func78 Z Z Z<|have a:=St.k b;ax [(0,H a0),(1,c),(2,d)] Z ?_
 unfold F.Hk at h
 refine R<|V 1 Z<|gl2<|V 3 Z<|J h fun j e h=>aU a Z (fe a0 e ) Z fun k w a=>J h fun l f h=>eW a Z (vz  f (g.b a.fr).rp (i.b a.fr).rp (a.ro 0 Z).rp) Z fun m w a=>V 5 Z<|gl2<|V 2 Z<|Q<|az ?_
 cases h
 exact ay Z Z (a.d [0] Z Z)
theorem ya {b:World} (a0:Int) {r:List UInt32}
  (h:F.HG a0=some r) :Calls Tryz.prog 80 #[H a0] b (Ret fun v w=>St [] b w [U X v r]):=by
 refine aB 7 Tryz.func80 Z Z Z<|have a:=St.k b;ax [(0,H a0)] Z ?_
 unfold F.HG at h
 refine R<|V 1 Z<|gl1<|R<|V 2 Z<|Q ?_
 refine gl9 Z h (fun h=>?_) (fun h=>?_)
 ·refine R<|J h fun e c h=>aU a Z (dz [53,97,99,54,51,53,100,56,97,97,51,97,57,51,101,55,98,51,101,98,98,100,53,53,55,54,57,56,56,54,98,99,54,53,49,100,48,54,98,48,99,99,53,51,98,48,102,54,51,98,99,101,51,99,51,101,50,55,100,50,54,48,52,98] c ) Z fun f w a=>V 1 Z<|gl8 ?_
  cases h
  exact ay Z Z (a.d [0] Z Z)
 refine gl6<|J h fun g d h=>aU a Z (dz [98,51,51,49,50,102,97,55,101,50,51,101,101,55,101,52,57,56,56,101,48,53,54,98,101,51,102,56,50,100,49,57,49,56,49,100,57,99,54,101,102,101,56,49,52,49,49,50,48,51,49,52,48,56,56,102,53,48,49,51,56,55,53,97,99,54,53,54,51,57,56,100,56,97,50,101,100,49,57,100,50,97,56,53,99,56,101,100,100,51,101,99,50,97,101,102] d ) Z fun i w a=>V 1 Z<|Q<|az ?_
 cases h
 exact ay Z Z (a.d [0] Z Z)
theorem ue {b:World} {a1 a2:List UInt32} {c d:Value} (a0:Int) {r:List UInt32}
  (h:F.Iq a0 a1 a2=some r) (g:RP [] b X c a1) (i:RP [] b X d a2):Calls Tryz.prog 77 #[H a0,c,d] b (Ret fun v w=>St [] b w [U X v r]):=by
 refine aB 18 Tryz.func77 Z Z Z<|have a:=St.k b;ax [(0,H a0),(1,c),(2,d)] Z ?_
 unfold F.Iq at h
 refine R<|V 1 Z<|gl2<|V 3 Z<|J h fun j e h=>aU a Z (fe a0 e ) Z fun k w a=>J h fun l f h=>eW a Z (vF  f (g.b a.fr).rp (i.b a.fr).rp (a.ro 0 Z).rp) Z fun m w a=>V 5 Z<|gl2<|V 2 Z<|Q<|az ?_
 cases h
 exact ay Z Z (a.d [0] Z Z)
theorem vr {m:World} {n o:List UInt32} {b c:Value} (a0:Int) (i:Bool) {r:Bool}
  (h:F.H4 a0 n o i=some r) (s:RP [] m X b n) (u:RP [] m X c o):Calls Tryz.prog 34 #[H a0,.agg #[b,c,K i]] m (Ret fun v w=>v=K r∧St [] m w []):=by
 refine aB 63 Tryz.func34 Z Z Z<|have a:=St.k m;ax [(0,H a0),(1,.agg #[b,c,K i])] Z ?_
 unfold F.H4 at h
 refine R<|bh (cu (cs:=[b,c,K i]) Z Z a) Z fun aW w a=>V 1 Z<|gl1<|R<|V 1 Z<|J h fun aX ah h=>bc a Z (eY a0 ah ) Z fun w a=>V 1 Z<|Q ?_
 refine gl9 Z h (fun h=>?_) (fun h=>?_)
 ·refine R<|V 1 Z<|gl8 ?_
  cases h
  exact ay Z Z ⟨Z,a.d [] Z Z⟩
 refine gl6<|N (ao (k:=0) u33 Z Z cZ Z) Z<|N (aw u31 Z Z (a.q 0 Z 0)) Z<|J h fun p ai h=>aU a Z (kW  ai (s.b a.fr).rp) Z fun ac w a=>V 1 Z<|gl2<|N (ao (k:=1) u33 Z Z cZ Z) Z<|N (aw u31 Z Z (a.q 1 Z 1)) Z<|J h fun ad aj h=>aU a Z (kW  aj (u.b a.fr).rp) Z fun ae w a=>V 1 Z<|gl1<|R<|N (ao (k:=2) u33 Z Z nz4 Z) Z<|N (aw Tryz.underlying4 Z Z (a.q 2 Z 2)) Z<|Q ?_
 refine gl9 Z h (fun h=>?_) (fun h=>?_)
 ·refine R<|V 1 Z<|N (aC u31 Z (a.ro 1 Z)) Z<|V 2 Z ?_
  cases d:((p.length:Int) == 0)
  case true=>
   have h:=cH h d
   try simp only [d]
   refine V 1 Z<|bE (t:=22) Z Z (aC u31 Z (a.ro 0 Z)) Z<|V 3 Z<|gl8 ?_
   cases h
   exact ay Z Z ⟨Z,a.d [] Z Z⟩
  case false=>
   have h:=cI h d
   try simp only [d]
   refine V 5 Z<|gl8 ?_
   cases h
   exact ay Z Z ⟨Z,a.d [] Z Z⟩
 refine gl5<|av ?_
 refine aZ (r:=r) (fun (g:Bool) L w=>L=[(0,H a0),(5,ac),(6,ae),(38,K g)]∧St [] m w [U X ac p,U X ae ad]) (F.He a0 p ad) ?_ ?_
 rotate_left
 ·intro j
  refine al<|V 2 Z<|J h fun ap x h=>aU a Z (fe a0 x ) Z fun aq w a=>J h fun ak y h=>bc a Z (lP  y (a.ro 2 Z).rp (a.ro 0 Z).rp) Z fun w a=>V 2 Z ?_
  cases f:(decide ((0:Int)≤ak))
  case true=>
   have h:=cH h f
   try simp only [f]
   exact V 6 Z<|Q<|aH (j true _ _ ⟨Z,(a.d [2,1] Z Z)⟩ h) Z
  case false=>
   have h:=cI h f
   try simp only [f]
   refine V 2 Z<|J h fun ar z h=>cR (t:=32) Z Z (by kernel_rfl) Z (fe a0 z ) Z fun au w q=>have a:=a.e q;J h fun am A h=>cR (t:=32) Z Z (by kernel_rfl) Z (lP  A (a.ro 2 Z).rp (a.ro 0 Z).rp) Z ?_
   rintro _ w ⟨rfl,q⟩
   have a:=a.e q
   exact V 2 Z<|Q<|aH (j (decide ((0:Int)≤am)) _ _ ⟨Z,(a.d [3,2] Z Z)⟩ h) Z
 rintro aA L w hJ h
 try dsimp only at hJ
 obtain ⟨rfl,a⟩:=hJ
 unfold F.He at h
 refine gl9 Z h (fun h=>?_) (fun h=>?_)
 ·refine R<|V 1 Z<|gl8 ?_
  cases h
  exact ay Z Z ⟨Z,a.d [] Z Z⟩
 refine gl6<|V 7 Z<|J h fun aD B h=>aU a Z (i3 a0 B (a.ro 0 Z).rp (a.ro 0 Z).rp) Z fun aE w a=>J h fun aF C h=>aU a Z (i3 a0 C (a.ro 1 Z).rp (a.ro 0 Z).rp) Z fun aG w a=>V 1 Z<|bG (cp (e:=X) (l:=([3]:List UInt32)) (vs:=[v32 3]) u31 aN Z Z Z Z (by decide) (by decide) a) Z fun aI w a=>V 1 Z<|J h fun aJ D h=>aU a Z (i3 a0 D (a.ro 0 Z).rp (a.ro 3 Z).rp) Z fun aK w a=>J h fun aL E h=>aU a Z (uh a0 E (a.ro 2 Z).rp (a.ro 0 Z).rp) Z fun aM w a=>V 1 Z<|J h fun aO G h=>aU a Z (ya a0 G ) Z fun aP w a=>J h fun aQ S h=>aU a Z (ue a0 S (a.ro 1 Z).rp (a.ro 0 Z).rp) Z fun aR w a=>V 1 Z<|gl2<|V 3 Z<|J h fun aS T h=>aU a Z (i3 a0 T (a.ro 8 Z).rp (a.ro 8 Z).rp) Z fun aT w a=>V 1 Z<|J h fun aV ab h=>bc a Z (lP  ab (a.ro 0 Z).rp (a.ro 1 Z).rp) Z fun w a=>V 2 Z<|Q<|az ?_
 cases h
 exact ay Z Z ⟨Z,a.d [] Z Z⟩
theorem qu {l:World} {a1 a2:List UInt8} {j k:Value} (a0:Int) {r:List UInt32×List UInt32×Bool×Int}
  (h:F.Iz a0 a1 a2=some r) (u:RP [] l e8 j a1) (x:RP [] l e8 k a2):Calls Tryz.prog 27 #[H a0,j,k] l (Ret fun v w=>∃m n:Value,v=.tuple #[.agg #[m,n,K r.2.2.1],H r.2.2.2]∧St [] l w [U X m r.1,U X n r.2.1]):=by
 refine aB 38 Tryz.func27 Z Z Z<|have a:=St.k l;ax [(0,H a0),(1,j),(2,k)] Z ?_
 unfold F.Iz at h
 refine R<|bh (ba (cs:=[.slice none 0 0,.slice none 0 0,K false]) jk Z a) Z fun y w a=>V 1 Z<|gl1 ?_
 refine aZ (r:=r) (fun (g:Bool) L w=>L=[(0,H a0),(1,j),(2,k),(6,O y 0),(25,K g)]∧St [] l w [Y y [.slice none 0 0,.slice none 0 0,K false]]) (F.FA a0 a1 a2) ?_ ?_
 rotate_left
 ·intro f
  refine al<|V 1 Z<|J h fun C z h=>bc a Z (eY a0 z ) Z fun w a=>V 2 Z ?_
  cases d:(C == 0)
  case true=>
   have h:=cH h d
   try simp only [d]
   exact V 13 Z<|Q<|aH (f true _ _ ⟨Z,a⟩ h) Z
  case false=>
   have h:=cI h d
   try simp only [d]
   refine V 1 Z<|bE (t:=12) Z Z (aC u24 Z (u.b a.fr)) Z<|V 1 Z<|J h fun D A h=>cR (t:=12) Z Z (by kernel_rfl) Z (eY a0 A ) Z ?_
   rintro _ w ⟨rfl,o⟩
   have a:=a.e o
   refine V 3 Z ?_
   cases e:((a1.length:Int) != D)
   case true=>
    have h:=cH h e
    try simp only [e]
    exact V 6 Z<|Q<|aH (f true _ _ ⟨Z,a⟩ h) Z
   case false=>
    have h:=cI h e
    try simp only [e]
    refine V 1 Z<|bE (t:=19) Z Z (aC u24 Z (x.b a.fr)) Z<|V 1 Z<|J h fun E B h=>cR (t:=19) Z Z (by kernel_rfl) Z (eY a0 B ) Z ?_
    rintro _ w ⟨rfl,o⟩
    have a:=a.e o
    exact V 2 Z<|Q<|aH (f ((a2.length:Int) != E) _ _ ⟨Z,a⟩ h) Z
 rintro ad L w G h
 try dsimp only at G
 obtain ⟨rfl,a⟩:=G
 unfold F.FA at h
 refine gl9 Z h (fun h=>?_) (fun h=>?_)
 ·refine R<|N (bT (vs:=[]) (cells:=[.slice none 0 0,.slice none 0 0,K false]) Z fp I Z) Z<|bl (bq (i:=0) (us:=[.slice none 0 0,.slice none 0 0,K false]) Z cC Z Z Z ⟨Z,Z,Z,I⟩ Z a) fun w a=>V 1 Z<|gl8 ?_
  cases h
  exact fq Z ⟨_,Z,bM (us:=[.slice none 0 0,.slice none 0 0,K false]) u33 Z cC (a.p 0 Z Z)⟩ Z ⟨.slice none 0 0,.slice none 0 0,Z,((a.nil X).nil X).d [1,0] Z Z⟩
 refine gl6<|V 1 Z<|J h fun S p h=>aU a Z (j6  p (u.b a.fr).rp) Z fun b w a=>V 1 Z<|J h fun T q h=>aU a Z (j6  q (x.b a.fr).rp) Z fun c w a=>N (bT (vs:=[(0,b,[b]),(1,c,[c])]) (cells:=[b,c,K false]) Z fp ⟨(cz (a.ro 1 Z).one),(cz (a.ro 0 Z).one),I⟩ Z) Z<|bh (ba (cs:=[.slice none 0 0,.slice none 0 0,K false]) jk Z a) Z fun ab w a=>bl (bq (i:=0) (us:=[b,c,K false]) Z cC Z Z Z ⟨(a.ro 2 Z).one,(a.ro 1 Z).one,Z,I⟩ Z a) fun w a=>gl1<|R<|V 1 Z<|N (aP (us:=[b,c,K false]) u33 Z cC Z (a.p 0 Z Z)) Z<|J h fun ac s h=>bc a Z (vr a0 false s (a.ro 2 Z).rp (a.ro 1 Z).rp) Z fun w a=>V 1 Z<|Q ?_
 refine gl9 Z h (fun h=>?_) (fun h=>?_)
 ·refine R<|N (bT (vs:=[]) (cells:=[.slice none 0 0,.slice none 0 0,K false]) Z fp I Z) Z<|bl (bq (i:=3) (us:=[.slice none 0 0,.slice none 0 0,K false]) Z cC Z Z Z ⟨Z,Z,Z,I⟩ Z a) fun w a=>V 1 Z<|gl8 ?_
  cases h
  exact fq Z ⟨_,Z,bM (us:=[.slice none 0 0,.slice none 0 0,K false]) u33 Z cC (a.p 3 Z Z)⟩ Z ⟨.slice none 0 0,.slice none 0 0,Z,((a.nil X).nil X).d [1,0] Z Z⟩
 refine gl6<|N (aP (us:=[b,c,K false]) u33 Z cC Z (a.p 0 Z Z)) Z<|bl (bq (i:=3) (us:=[b,c,K false]) Z cC Z Z Z ⟨(a.ro 2 Z).one,(a.ro 1 Z).one,Z,I⟩ Z a) fun w a=>V 1 Z<|Q<|az ?_
 cases h
 exact fq Z ⟨_,Z,bM (us:=[b,c,K false]) u33 Z cC (a.p 3 Z Z)⟩ Z ⟨b,c,Z,a.d [2,1] Z Z⟩
theorem rf {b:World} (a0:Int) {r:List UInt32}
  (h:F.Hq a0=some r) :Calls Tryz.prog 35 #[H a0] b (Ret fun v w=>St [] b w [U X v r]):=by
 refine aB 10 Tryz.func35 Z Z Z<|have a:=St.k b;ax [(0,H a0)] Z ?_
 unfold F.Hq at h
 refine R<|V 1 Z<|gl1<|R<|V 1 Z<|Q<|ar<|R<|V 2 Z<|Q ?_
 refine gl9 Z h (fun h=>?_) (fun h=>?_)
 ·refine R<|J h fun e c h=>aU a Z (dz [102,102,102,102,102,102,102,102,48,48,48,48,48,48,48,48,102,102,102,102,102,102,102,102,102,102,102,102,102,102,102,102,98,99,101,54,102,97,97,100,97,55,49,55,57,101,56,52,102,51,98,57,99,97,99,50,102,99,54,51,50,53,53,49] c ) Z fun f w a=>V 1 Z<|Q<|az<|bA<|aW ?_
  cases h
  exact ay Z Z (a.d [0] Z Z)
 refine R<|V 2 Z<|Q ?_
 refine gl9 Z h (fun h=>?_) (fun h=>?_)
 ·refine R<|J h fun g d h=>aU a Z (dz [102,102,102,102,102,102,102,102,102,102,102,102,102,102,102,102,102,102,102,102,102,102,102,102,102,102,102,102,102,102,102,102,102,102,102,102,102,102,102,102,102,102,102,102,102,102,102,102,99,55,54,51,52,100,56,49,102,52,51,55,50,100,100,102,53,56,49,97,48,100,98,50,52,56,98,48,97,55,55,97,101,99,101,99,49,57,54,97,99,99,99,53,50,57,55,51] d ) Z fun i w a=>V 1 Z<|Q<|az<|bA<|aW ?_
  cases h
  exact ay Z Z (a.d [0] Z Z)
 refine cd<|aF<|ak<|R<|V 1 Z<|Q<|az ?_
 cases h
 exact ay Z Z ((a.nil X).d [0] Z Z)
theorem rY {k:World} (a0:Int) {r:List UInt32×List UInt32×Bool}
  (h:F.IA a0=some r) :Calls Tryz.prog 42 #[H a0] k (Ret fun v w=>∃f g:Value,v=.agg #[f,g,K r.2.2]∧St [] k w [U X f r.1,U X g r.2.1]):=by
 refine aB 15 Tryz.func42 Z Z Z<|have a:=St.k k;ax [(0,H a0)] Z ?_
 unfold F.IA at h
 refine R<|bh (ba (cs:=[.slice none 0 0,.slice none 0 0,K false]) jk Z a) Z fun p w a=>gl1<|R<|V 1 Z<|Q<|ar<|R<|V 2 Z<|Q ?_
 refine gl9 Z h (fun h=>?_) (fun h=>?_)
 ·refine R<|J h fun q l h=>aU a Z (dz [54,98,49,55,100,49,102,50,101,49,50,99,52,50,52,55,102,56,98,99,101,54,101,53,54,51,97,52,52,48,102,50,55,55,48,51,55,100,56,49,50,100,101,98,51,51,97,48,102,52,97,49,51,57,52,53,100,56,57,56,99,50,57,54] l ) Z fun d w a=>J h fun s m h=>aU a Z (dz [52,102,101,51,52,50,101,50,102,101,49,97,55,102,57,98,56,101,101,55,101,98,52,97,55,99,48,102,57,101,49,54,50,98,99,101,51,51,53,55,54,98,51,49,53,101,99,101,99,98,98,54,52,48,54,56,51,55,98,102,53,49,102,53] m ) Z fun e w a=>N (bT (vs:=[(0,d,[d]),(1,e,[e])]) (cells:=[d,e,K false]) Z fp ⟨(cz (a.ro 1 Z).one),(cz (a.ro 0 Z).one),I⟩ Z) Z<|bl (bq (i:=2) (us:=[d,e,K false]) Z cC Z Z Z ⟨(a.ro 1 Z).one,(a.ro 0 Z).one,Z,I⟩ Z a) fun w a=>Q<|az<|bA<|aW ?_
  cases h
  exact dc Z ⟨_,Z,bM (us:=[d,e,K false]) u33 Z cC (a.p 2 Z Z)⟩ ⟨d,e,Z,a.d [1,0] Z Z⟩
 refine R<|V 2 Z<|Q ?_
 refine gl9 Z h (fun h=>?_) (fun h=>?_)
 ·refine R<|J h fun t n h=>aU a Z (dz [97,97,56,55,99,97,50,50,98,101,56,98,48,53,51,55,56,101,98,49,99,55,49,101,102,51,50,48,97,100,55,52,54,101,49,100,51,98,54,50,56,98,97,55,57,98,57,56,53,57,102,55,52,49,101,48,56,50,53,52,50,97,51,56,53,53,48,50,102,50,53,100,98,102,53,53,50,57,54,99,51,97,53,52,53,101,51,56,55,50,55,54,48,97,98,55] n ) Z fun b w a=>J h fun o j h=>aU a Z (dz [51,54,49,55,100,101,52,97,57,54,50,54,50,99,54,102,53,100,57,101,57,56,98,102,57,50,57,50,100,99,50,57,102,56,102,52,49,100,98,100,50,56,57,97,49,52,55,99,101,57,100,97,51,49,49,51,98,53,102,48,98,56,99,48,48,97,54,48,98,49,99,101,49,100,55,101,56,49,57,100,55,97,52,51,49,100,55,99,57,48,101,97,48,101,53,102] j ) Z fun c w a=>N (bT (vs:=[(0,b,[b]),(1,c,[c])]) (cells:=[b,c,K false]) Z fp ⟨(cz (a.ro 1 Z).one),(cz (a.ro 0 Z).one),I⟩ Z) Z<|bl (bq (i:=2) (us:=[b,c,K false]) Z cC Z Z Z ⟨(a.ro 1 Z).one,(a.ro 0 Z).one,Z,I⟩ Z a) fun w a=>Q<|az<|bA<|aW ?_
  cases h
  exact dc Z ⟨_,Z,bM (us:=[b,c,K false]) u33 Z cC (a.p 2 Z Z)⟩ ⟨b,c,Z,a.d [1,0] Z Z⟩
 refine cd<|aF<|ak<|R<|N (bT (vs:=[]) (cells:=[.slice none 0 0,.slice none 0 0,K false]) Z fp I Z) Z<|bl (bq (i:=0) (us:=[.slice none 0 0,.slice none 0 0,K false]) Z cC Z Z Z ⟨Z,Z,Z,I⟩ Z a) fun w a=>Q<|az ?_
 cases h
 exact dc Z ⟨_,Z,bM (us:=[.slice none 0 0,.slice none 0 0,K false]) u33 Z cC (a.p 0 Z Z)⟩ ⟨.slice none 0 0,.slice none 0 0,Z,((a.nil X).nil X).d [1,0] Z Z⟩
end Go.Proofs
