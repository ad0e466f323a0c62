import Derived.Test.YtahgjafdhjbkeaaGreatDoorRW0
import Derived.Test.YtahgjafdhjbkeaaGreatDoorGkFman
set_option linter.unusedVariables false
set_option linter.unusedSimpArgs false
set_option linter.unusedSectionVars false
set_option maxRecDepth 4000
namespace Go.Proofs
open Go Go.RowKit Go.Gk
open Go.Gk renaming aa → V, af → J, ag → N, e32 → X, gl3 → Q, gl4 → R, own → U, vB → K, vI → H
theorem ru {j:World} {a0:List UInt32} {b:Value} {r:List UInt32}
  (h:F.Ix a0=some r) (f:RP [] j X b a0):Calls Tryz.prog 130 #[b] j (Ret fun v w=>St [] j w [U X v r]):=by
 refine aB 33 Tryz.func130 Z Z Z<|have a:=St.k j;ax [(0,b)] Z ?_
 unfold F.Ix at h
 refine R<|V 1 Z<|gl2<|V 1 Z<|N (aC u31 Z (f.b a.fr)) Z<|V 1 Z<|gl1<|ar<|ax [(0,b),(3,H (a0.length:Int))] Z ?_
 refine aT (F.IW a0) (fun (s:Int) L w=>L=[(0,b),(3,H s)]∧St [] j w []) ?_ (a0.length:Int) ⟨Z,a⟩ h
 rintro T c L w G o B h p
 try dsimp only at o
 obtain ⟨rfl,a⟩:=o
 unfold F.IW at h
 refine av ?_
 refine aZ (r:=G) (fun (g:Bool) L w=>L=[(0,b),(3,H c),(17,K g)]∧St [] j w []) (F.IG c a0) ?_ ?_
 rotate_left
 ·intro q
  refine al<|V 3 Z ?_
  cases d:(decide ((0:Int)<c))
  case true=>
   have h:=cH h d
   try simp only [d]
   exact V 3 Z<|J h fun A u h=>bE (t:=10) Z Z (bk u31 aN Z Z (f.b a.fr) u) Z<|bE (t:=10) Z Z (a8 u38 Z Z (f.b a.fr) u Z) Z<|bE (t:=10) Z Z (aj Z Z (jF _ A 0)) Z<|V 1 Z<|Q<|aH (q (A == 0) _ _ ⟨Z,a⟩ h) Z
  case false=>
   have h:=cI h d
   try simp only [d]
   exact V 7 Z<|Q<|aH (q false _ _ ⟨Z,a⟩ h) Z
 rintro ae L w S h
 try dsimp only at S
 obtain ⟨rfl,a⟩:=S
 unfold F.IG at h
 refine gl9 Z h (fun h=>?_) (fun h=>?_)
 ·exact gl5<|ar<|al<|V 3 Z<|aE<|aF<|bf (bd (B (wI (c - 1)) _ _ ⟨Z,a⟩ (aL h p)) Z)
 refine aQ<|au<|au<|have h:=aI h p;aR<|ak<|R<|V 1 Z<|gl1<|R<|V 1 Z<|Q<|ar<|ax [(0,b),(3,H c),(4,.slice none 0 0),(5,H 0)] Z ?_
 refine aT (F.I1 a0 c) (fun (s:List UInt32×Int) L w=>∃(k:Value),L=[(0,b),(3,H c),(4,k),(5,H s.2)]∧St [] j w [U X k s.1]) ?_ ([],0) ⟨.slice none 0 0,Z,(a.nil X)⟩ h
 rintro ab ⟨ah,C⟩ L w ac o y h m
 try dsimp only at o
 obtain ⟨k,rfl,a⟩:=o
 unfold F.I1 at h
 refine av<|R<|V 3 Z<|Q ?_
 refine gl9 Z h (fun h=>?_) (fun h=>?_)
 ·exact gl5<|av<|ar<|al<|V 3 Z<|J h fun x n h=>N (bk u31 aN Z Z (f.b a.fr) n) Z<|N (a8 u38 Z Z (f.b a.fr) n Z) Z<|bG (cp (e:=X) (l:=([x]:List UInt32)) (vs:=[v32 x]) u31 aN Z Z Z Z (by decide) (by decide) a) Z fun ad w a=>J h fun D z h=>bG (dG u31 aN Z Z Z a (i:=1) Z (a.ro 0 Z) z) Z fun E w a=>V 1 Z<|aE<|aF<|ak<|al<|V 3 Z<|aE<|bf (bd (y (D,wI (C+1)) _ _ ⟨E,Z,(a.d [1] Z Z)⟩ (aL h m)) Z)
 refine aQ<|au<|au<|have h:=aI h m;aR<|ak<|R<|V 2 Z<|Q<|az ?_
 cases h
 exact ay Z Z (a.d [0] Z Z)
theorem j6 {j:World} {a0:List UInt8} {b:Value} {r:List UInt32}
  (h:F.Gl a0=some r) (o:RP [] j e8 b a0):Calls Tryz.prog 68 #[b] j (Ret fun v w=>St [] j w [U X v r]):=by
 refine aB 37 Tryz.func68 Z Z Z<|have a:=St.k j;ax [(0,b)] Z ?_
 unfold F.Gl at h
 refine R<|V 1 Z<|gl2<|V 1 Z<|gl1<|R<|V 1 Z<|N (aC u24 Z (o.b a.fr)) Z<|V 1 Z<|Q<|ar<|ax [(0,b),(3,.slice none 0 0),(4,H (a0.length:Int))] Z ?_
 refine aT (F.EE a0) (fun (s:List UInt32×Int) L w=>∃(c:Value),L=[(0,b),(3,c),(4,H s.2)]∧St [] j w [U X c s.1]) ?_ ([],(a0.length:Int)) ⟨.slice none 0 0,Z,(a.nil X)⟩ h
 rintro ac ⟨p,d⟩ L w am q D h t
 try dsimp only at q
 obtain ⟨c,rfl,a⟩:=q
 unfold F.EE at h
 refine av<|R<|V 2 Z<|Q ?_
 refine gl9 Z h (fun h=>?_) (fun h=>?_)
 ·refine gl5<|av<|ar<|R<|V 1 Z<|gl1<|R<|V 3 Z<|Q<|ar<|ax [(0,b),(3,c),(4,H d),(5,v32 0),(6,H (wI (d - 4)))] Z ?_
  refine aT (F.Er a0 p d) (fun (s:UInt32×Int) L w=>L=[(0,b),(3,c),(4,H d),(5,v32 s.1),(6,H s.2)]∧St [] j w [U X c p]) ?_ (0,wI (d - 4)) ⟨Z,a⟩ h
  rintro ad ⟨f,u⟩ L w E q z h k
  try dsimp only at q
  obtain ⟨rfl,a⟩:=q
  unfold F.Er at h
  refine av<|R<|V 3 Z<|Q ?_
  refine gl9 Z h (fun h=>?_) (fun h=>?_)
  ·refine gl5 ?_
   refine aZ (r:=E) (fun (g:UInt32) L w=>L=[(0,b),(3,c),(4,H d),(5,v32 g),(6,H u)]∧St [] j w [U X c p]) (F.HA u) ?_ ?_
   rotate_left
   ·intro m
    refine ar<|R<|V 1 Z<|N (aj Z Z (uM _ f 256)) Z<|V 1 Z<|gl2<|V 2 Z<|Q ?_
    refine gl9 Z h (fun h=>?_) (fun h=>?_)
    ·exact al<|V 3 Z<|J h fun x n h=>N (bk u24 ti5 Z Z (o.b a.fr) n) Z<|N (a8 Tryz.underlying5 Z Z (o.b a.fr) n Z) Z<|N (aD Z (eM Tryz.underlying5 u38 x)) Z<|N (aj Z Z (cT _ (f*256) x.toUInt32)) Z<|a7 h fun y A h=>N (a9 (v:=v32 y) (by rw [←A]; rfl)) Z<|aE<|aF<|ak<|aH (m y _ _ ⟨Z,a⟩ h) Z
    exact cd<|aF<|ak<|aH (m (f*256) _ _ ⟨Z,a⟩ h) Z
   rintro G L w hJ h
   try dsimp only at hJ
   obtain ⟨rfl,a⟩:=hJ
   unfold F.HA at h
   exact al<|V 3 Z<|aE<|bf (bd (z (G,wI (u+1)) _ _ ⟨Z,a⟩ (aL h k)) Z)
  exact aQ<|au<|au<|have h:=aI h k;aR<|ak<|al<|V 2 Z<|bG (cp (e:=X) (l:=([f]:List UInt32)) (vs:=[v32 f]) u31 aN Z Z Z Z (by decide) (by decide) a) Z fun ae w a=>J h fun S B h=>bG (dG u31 aN Z Z Z a (i:=1) Z (a.ro 0 Z) B) Z fun T w a=>V 1 Z<|aE<|aF<|ak<|al<|V 3 Z<|aE<|bf (bd (D (S,wI (d - 4)) _ _ ⟨T,Z,(a.d [1] Z Z)⟩ (aL h t)) Z)
 refine aQ<|au<|au<|have h:=aI h t;aR<|ak<|R<|V 1 Z<|J h fun ah C h=>aU a Z (ru  C (a.ro 0 Z).rp) Z fun ai w a=>V 1 Z<|Q<|az ?_
 cases h
 exact ay Z Z (a.d [0] Z Z)
theorem ot {e:World} {a0:List UInt32} {a:Value} (a1:Int) {r:UInt64}
  (h:F.Hg a0 a1=some r) (b:RP [] e X a a0):Calls Tryz.prog 134 #[a,H a1] e (Ret fun v w=>v=v64 r∧St [] e w []):=by
 refine aB 14 Tryz.func134 Z Z Z<|have c:=St.k e;ax [(0,a),(1,H a1)] Z ?_
 unfold F.Hg at h
 refine R<|V 1 Z<|gl1<|R<|V 2 Z<|N (aC u31 Z (b.b c.fr)) Z<|V 1 Z<|Q ?_
 refine gl9 Z h (fun h=>?_) (fun h=>?_)
 ·refine R<|V 1 Z<|gl8 ?_
  cases h
  exact ay Z Z ⟨Z,c⟩
 refine gl6<|V 2 Z<|J h fun f d h=>N (bk u31 aN Z Z (b.b c.fr) d) Z<|N (a8 u38 Z Z (b.b c.fr) d Z) Z<|N (aD Z (bD u38 u119 f)) Z<|V 1 Z<|Q<|az ?_
 cases h
 exact ay Z Z ⟨Z,c⟩
theorem lP {e:World} {a0 a1:List UInt32} {b c:Value} {r:Int}
  (h:F.E3 a0 a1=some r) (k:RP [] e X b a0) (f:RP [] e X c a1):Calls Tryz.prog 75 #[b,c] e (Ret fun v w=>v=H r∧St [] e w []):=by
 refine aB 35 Tryz.func75 Z Z Z<|have a:=St.k e;ax [(0,b),(1,c)] Z ?_
 unfold F.E3 at h
 refine R<|V 1 Z<|gl2<|V 1 Z<|N (aC u31 Z (k.b a.fr)) Z<|V 1 Z<|Q ?_
 refine aZ (r:=r) (fun (g:Int) L w=>L=[(0,b),(1,c),(5,H g)]∧St [] e w []) (F.HO a0 a1) ?_ ?_
 rotate_left
 ·intro i
  refine R<|V 1 Z<|N (aC u31 Z (f.b a.fr)) Z<|V 2 Z<|Q ?_
  refine gl9 Z h (fun h=>?_) (fun h=>?_)
  ·exact al<|V 1 Z<|N (aC u31 Z (f.b a.fr)) Z<|V 1 Z<|Q<|aH (i (a1.length:Int) _ _ ⟨Z,a⟩ h) Z
  exact gl5<|aH (i (a0.length:Int) _ _ ⟨Z,a⟩ h) Z
 rintro l L w t h
 try dsimp only at t
 obtain ⟨rfl,a⟩:=t
 unfold F.HO at h
 refine av<|R<|V 3 Z<|Q<|ar<|ax [(0,b),(1,c),(6,H (wI (l - 1)))] Z ?_
 refine aT (F.Ev a0 a1) (fun (s:Int) L w=>L=[(0,b),(1,c),(6,H s)]∧St [] e w []) ?_ (wI (l - 1)) ⟨Z,a⟩ h
 rintro x j L w y u o h d
 try dsimp only at u
 obtain ⟨rfl,a⟩:=u
 unfold F.Ev at h
 refine av<|R<|V 2 Z<|Q ?_
 refine gl9 Z h (fun h=>?_) (fun h=>?_)
 ·refine gl5<|av<|ar<|R<|V 2 Z<|J h fun m p h=>bc a Z (ot j p (k.b a.fr).rp) Z fun w a=>V 1 Z<|gl2<|V 2 Z<|J h fun n q h=>bc a Z (ot j q (f.b a.fr).rp) Z fun w a=>V 1 Z<|gl1<|R<|V 2 Z<|N (aj Z Z (n8 _ m n)) Z<|Q ?_
  refine gl9 Z h (fun h=>?_) (fun h=>?_)
  ·refine R<|V 1 Z<|gl8<|bA<|aW<|aW<|have h:=aI h d;bA<|aW ?_
   cases h
   exact ay Z Z ⟨Z,a⟩
  refine gl6<|V 2 Z<|N (aj Z Z (jJ _ m n)) Z<|Q ?_
  refine gl9 Z h (fun h=>?_) (fun h=>?_)
  ·refine R<|V 1 Z<|Q<|az<|bA<|aW<|aW<|have h:=aI h d;bA<|aW ?_
   cases h
   exact ay Z Z ⟨Z,a⟩
  exact cd<|aF<|ak<|al<|V 3 Z<|aE<|bf (bd (o (wI (j - 1)) _ _ ⟨Z,a⟩ (aL h d)) Z)
 refine aQ<|au<|au<|have h:=aI h d;aR<|ak<|R<|V 1 Z<|Q<|az ?_
 cases h
 exact ay Z Z ⟨Z,a⟩
end Go.Proofs
