import Derived.Test.YtahgjafdhjbkeaaGreatDoorRW0
import Derived.Test.YtahgjafdhjbkeaaGreatDoorGkFman
import Derived.Test.YtahgjafdhjbkeaaGreatDoorRWecdsa
import Derived.Test.YtahgjafdhjbkeaaGreatDoorRWref12d
import Derived.Test.YtahgjafdhjbkeaaGreatDoorGkX9
set_option linter.unusedVariables false
set_option linter.unusedSimpArgs false
set_option linter.unusedSectionVars false
set_option maxRecDepth 4000
namespace Go.Proofs
open Go Go.RowKit Go.Gk
open Go.Gk renaming aa → V, af → J, ag → N, gl3 → Q, gl4 → R, own → U, vB → K, vI → H
theorem gM {j:World} {a0:List UInt8} {b:Value} {r:(List UInt8×Nat)}
  (h:F.DU a0=some r) (c:RP [] j e8 b a0):Calls Tryz.prog 5 #[b] j (Ret fun v w=>∃u0:Value,v=slV u0 e8.sz 0 r.2∧r.2≤r.1.length∧St [] j w [U e8 u0 r.1]):=by
 refine aB 27 Tryz.func5 Z Z Z<|have a:=St.k j;ax [(0,b)] Z ?_
 unfold F.DU at h
 refine R<|V 1 Z<|gl2<|V 1 Z<|N (aC u24 Z (c.b a.fr)) Z<|V 1 Z<|J h fun A m h=>bG (dw (e:=e8) u24 ti5 Z Z Z a m) Z fun d w a=>V 1 Z<|gl2<|V 2 Z<|bG (tJ (e:=e8) u24 ti5 Z Z Z a (i:=0) Z (c.b a.fr)) Z ?_
 rintro v_q w ⟨hv_q,a⟩
 subst v_q
 obtain ⟨q,n,h⟩:=fN h
 rw [n]at a
 refine gl1<|R<|V 1 Z<|N (aC u24 Z (c.b a.fr)) Z<|V 1 Z<|Q<|ar<|ax [(0,b),(3,d),(4,H (a0.length:Int))] Z ?_
 refine aT (F.IL a0) (fun (s:Int×List UInt8) L w=>L=[(0,b),(3,d),(4,H s.1)]∧St [] j w [U e8 d s.2]) ?_ ((a0.length:Int),q) ⟨Z,a⟩ h
 rintro y ⟨u,B⟩ L w C x o h k
 try dsimp only at x
 obtain ⟨rfl,a⟩:=x
 unfold F.IL at h
 refine av<|R<|V 2 Z<|N (aC u24 Z (a.ro 0 Z)) Z<|V 1 Z<|Q ?_
 refine gl9 Z h (fun h=>?_) (fun h=>?_)
 ·refine gl5<|av<|ar<|al<|V 2 Z<|J h fun z f h=>N (bk u24 ti5 Z Z (a.ro 0 Z) f) Z<|bl (bZ (t:=165) ti5 Z Z a (i:=0) Z f Z) fun w a=>a7 h fun p l h=>?_
  rw [l]at a
  exact aE<|aF<|ak<|al<|V 3 Z<|aE<|bf (bd (o (wI (u+1),p) _ _ ⟨Z,a⟩ (aL h k)) Z)
 refine aQ<|au<|au<|have h:=aI h k;aR<|ak<|R<|V 2 Z<|N (aC u24 Z (c.b a.fr)) Z<|da h fun g h=>N (jy u24 ti5 Z Z (a.ro 0 Z) (iB g)) Z<|V 1 Z<|Q<|az ?_
 cases h
 exact ay Z Z ⟨d,Z,g.2,a.d [0] Z Z⟩
theorem tE {e:World} {a0 a1:List UInt8} {b c:Value} {r:Bool}
  (h:F.HH a0 a1=some r) (g:RP [] e e8 b a0) (i:RP [] e e8 c a1):Calls Tryz.prog 12 #[b,c] e (Ret fun v w=>v=K r∧St [] e w []):=by
 refine aB 26 Tryz.func12 Z Z Z<|have a:=St.k e;ax [(0,b),(1,c)] Z ?_
 unfold F.HH at h
 refine R<|V 1 Z<|gl1<|R<|V 1 Z<|N (aC u24 Z (g.b a.fr)) Z<|V 1 Z<|N (aC u24 Z (i.b a.fr)) Z<|V 1 Z<|Q ?_
 refine gl9 Z h (fun h=>?_) (fun h=>?_)
 ·refine R<|V 1 Z<|gl8 ?_
  cases h
  exact ay Z Z ⟨Z,a⟩
 refine gl5<|av<|R<|V 1 Z<|Q<|ar<|ax [(0,b),(1,c),(5,H 0)] Z ?_
 refine aT (F.I0 a0 a1) (fun (s:Int) L w=>L=[(0,b),(1,c),(5,H s)]∧St [] e w []) ?_ 0 ⟨Z,a⟩ h
 rintro t n L w u o l h f
 try dsimp only at o
 obtain ⟨rfl,a⟩:=o
 unfold F.I0 at h
 refine av<|R<|V 2 Z<|N (aC u24 Z (g.b a.fr)) Z<|V 1 Z<|Q ?_
 refine gl9 Z h (fun h=>?_) (fun h=>?_)
 ·refine gl5<|av<|ar<|av<|aX (fun w'=>St [] e w' []) (fun _=>true) bR (fun _ _ _ m=>m.2) (fun _ _ m=>m) (by kernel_rfl)<|have a:=a.drew;show lxE _ _ _ _ _ _ _ [0,1,2,3,4,5,6,7,8] _ _ from an 2 Z a<|J h fun p j h=>ai a Z Z (fun w d=>bk u24 ti5 Z Z (g.b d.fr) j) Z<|ai a Z Z (fun w d=>a8 Tryz.underlying5 Z Z (g.b d.fr) j Z) Z<|an 2 Z a<|J h fun q k h=>ai a Z Z (fun w d=>bk u24 ti5 Z Z (i.b d.fr) k) Z<|ai a Z Z (fun w d=>a8 Tryz.underlying5 Z Z (i.b d.fr) k Z) Z<|ai a Z Z (fun w d=>aj Z Z (wC _ p q)) Z<|bn a<|ak ?_
  refine gl9 Z h (fun h=>?_) (fun h=>?_)
  ·refine R<|V 1 Z<|Q<|az<|bA<|aW<|aW<|have h:=aI h f;bA<|aW ?_
   cases h
   exact ay Z Z ⟨Z,a⟩
  exact cd<|aF<|ak<|al<|V 3 Z<|aE<|bf (bd (l (wI (n+1)) _ _ ⟨Z,a⟩ (aL h f)) Z)
 refine aQ<|au<|au<|have h:=aI h f;aR<|ak<|R<|V 1 Z<|Q<|az ?_
 cases h
 exact ay Z Z ⟨Z,a⟩
theorem gy {g:World} {a0 a1:List UInt8} {b c:Value} (k0:Nat) {r:Bool}
  (h:F.DX a0 k0 a1=some r) (d:RP [] g e8 b a0) (m:k0≤a0.length) (i:RP [] g e8 c a1):Calls Tryz.prog 8 #[slV b e8.sz 0 k0,c] g (Ret fun v w=>v=K r∧St [] g w []):=by
 refine aB 28 Tryz.func8 Z Z Z<|have a:=St.k g;ax [(0,slV b e8.sz 0 k0),(1,c)] Z ?_
 unfold F.DX at h
 refine R<|V 1 Z<|gl2<|V 2 Z<|N (aC u24 Z (i.b a.fr)) Z<|V 1 Z<|da h fun e h=>N (pH u24 ti5 Z Z (d.b a.fr) (iB e)) Z<|V 1 Z<|gl1<|R<|V 1 Z<|N (aC u24 Z (i.b a.fr)) Z<|V 1 Z<|Q<|ar<|ax [(0,slV b e8.sz 0 k0),(1,c),(5,slV b e8.sz 0 ((wI ((a1.length:Int)+9):Int).toNat)),(6,H (a1.length:Int))] Z ?_
 refine aT (F.H2 a0 k0 a1) (fun (s:Int) L w=>L=[(0,slV b e8.sz 0 k0),(1,c),(5,slV b e8.sz 0 ((wI ((a1.length:Int)+9):Int).toNat)),(6,H s)]∧St [] g w []) ?_ (a1.length:Int) ⟨Z,a⟩ h
 rintro q n L w t o k h f
 try dsimp only at o
 obtain ⟨rfl,a⟩:=o
 unfold F.H2 at h
 refine av<|R<|V 2 Z<|N (aC u24 Z ((d.b a.fr).tk e.2)) Z<|V 1 Z<|Q ?_
 refine gl9 Z h (fun h=>?_) (fun h=>?_)
 ·refine gl5<|av<|ar<|R<|V 2 Z<|J h fun p j h=>N (kk u24 ti5 Z Z (d.b a.fr) e.2 j) Z<|N (a8 Tryz.underlying5 Z Z (d.b a.fr) (kv j) Z) Z<|N (aj Z Z (wC _ p 165)) Z<|Q ?_
  refine gl9 Z h (fun h=>?_) (fun h=>?_)
  ·refine R<|V 1 Z<|Q<|az<|bA<|aW<|aW<|have h:=aI h f;bA<|aW ?_
   cases h
   exact ay Z Z ⟨Z,a⟩
  exact cd<|aF<|ak<|al<|V 3 Z<|aE<|bf (bd (k (wI (n+1)) _ _ ⟨Z,a⟩ (aL h f)) Z)
 refine aQ<|au<|au<|have h:=aI h f;aR<|ak<|R<|V 2 Z<|J h fun u l h=>bc a Z (tE  l ((d.b a.fr).tk m).rp (i.b a.fr).rp) Z fun w a=>V 1 Z<|Q<|az ?_
 cases h
 exact ay Z Z ⟨Z,a⟩
theorem c_law12_EcdsaVerifies {l:World} {a2 a3 a4 a5:List UInt8} {s u S x:Value} (a0 a1:Int) {r:Bool}
  (h:F.IP a0 a1 a2 a3 a4 a5=some r) (hT:TB [] l) (y:RP [] l e8 s a2) (z:RP [] l e8 u a3) (T:RP [] l e8 S a4) (A:RP [] l e8 x a5):Calls Tryz.prog 3 #[H a0,H a1,s,u,S,x] l (Ret fun v w=>v=K r∧St [] l w []):=by
 refine aB 92 Tryz.func3 Z Z Z<|have a:=St.k l;ax [(0,H a0),(1,H a1),(2,s),(3,u),(4,S),(5,x)] Z ?_
 unfold F.IP at h
 refine R<|V 1 Z<|gl2<|V 1 Z<|J h fun B aA h=>aG Z (gM  aA (y.b a.fr).rp) Z ?_
 rintro _ w ⟨au,rfl,p,b⟩
 have a:=a.e b
 refine V 1 Z<|gl2<|V 1 Z<|J h fun C aD h=>aG Z (gM  aD (z.b a.fr).rp) Z ?_
 rintro _ w ⟨aw,rfl,q,b⟩
 have a:=a.e b
 refine V 1 Z<|gl2<|V 1 Z<|J h fun D aE h=>aG Z (gM  aE (T.b a.fr).rp) Z ?_
 rintro _ w ⟨ab,rfl,c,b⟩
 have a:=a.e b
 refine V 1 Z<|gl2<|V 1 Z<|J h fun m ah h=>aG Z (gM  ah (A.b a.fr).rp) Z ?_
 rintro _ w ⟨ac,rfl,n,b⟩
 have a:=a.e b
 refine V 1 Z<|gl2<|V 6 Z<|J h fun aF ai h=>bc a Z (kP a0 a1 ai (hT.b a.fr) ((a.ro 3 Z).tk p).rp ((a.ro 2 Z).tk q).rp ((a.ro 1 Z).tk c).rp ((a.ro 0 Z).tk n).rp) Z fun w a=>V 1 Z<|gl1 ?_
 refine aZ (r:=r) (fun (g:Bool) L w=>L=[(0,H a0),(1,H a1),(2,s),(3,u),(5,x),(13,slV au e8.sz 0 B.2),(14,slV aw e8.sz 0 C.2),(15,slV ab e8.sz 0 D.2),(16,slV ac e8.sz 0 m.2),(66,K g)]∧St [] l w [U e8 au B.1,U e8 aw C.1,U e8 ab D.1,U e8 ac m.1]) (F.Ep a0 a1 a2 a3 a5 B C D m) ?_ ?_
 rotate_left
 ·intro d
  refine al<|V 7 Z<|J h fun aI ak h=>bc a Z (kZ a0 a1 ak (hT.b a.fr) (y.b a.fr).rp (z.b a.fr).rp (T.b a.fr).rp (A.b a.fr).rp) Z fun w a=>V 2 Z ?_
  cases e:(aF != aI)
  case true=>
   have h:=cH h e
   try simp only [e]
   exact V 23 Z<|Q<|aH (d true _ _ ⟨Z,(a.d [3,2,1,0] Z Z)⟩ h) Z
  case false=>
   have h:=cI h e
   try simp only [e]
   refine V 2 Z<|J h fun aJ am h=>cR (t:=43) Z Z (by kernel_rfl) Z (gy B.2 am (a.ro 3 Z).rp p (y.b a.fr).rp) Z ?_
   rintro _ w ⟨rfl,b⟩
   have a:=a.e b
   refine V 3 Z ?_
   cases f:(!aJ)
   case true=>
    have h:=cH h f
    try simp only [f]
    exact V 17 Z<|Q<|aH (d true _ _ ⟨Z,(a.d [3,2,1,0] Z Z)⟩ h) Z
   case false=>
    have h:=cI h f
    try simp only [f]
    refine V 2 Z<|J h fun aK an h=>cR (t:=49) Z Z (by kernel_rfl) Z (gy C.2 an (a.ro 2 Z).rp q (z.b a.fr).rp) Z ?_
    rintro _ w ⟨rfl,b⟩
    have a:=a.e b
    refine V 3 Z ?_
    cases j:(!aK)
    case true=>
     have h:=cH h j
     try simp only [j]
     exact V 11 Z<|Q<|aH (d true _ _ ⟨Z,(a.d [3,2,1,0] Z Z)⟩ h) Z
    case false=>
     have h:=cI h j
     try simp only [j]
     refine V 2 Z<|J h fun aL ao h=>cR (t:=55) Z Z (by kernel_rfl) Z (gy D.2 ao (a.ro 1 Z).rp c (T.b a.fr).rp) Z ?_
     rintro _ w ⟨rfl,b⟩
     have a:=a.e b
     refine V 3 Z ?_
     cases k:(!aL)
     case true=>
      have h:=cH h k
      try simp only [k]
      exact V 5 Z<|Q<|aH (d true _ _ ⟨Z,(a.d [3,2,1,0] Z Z)⟩ h) Z
     case false=>
      have h:=cI h k
      try simp only [k]
      refine V 2 Z<|J h fun aM ap h=>cR (t:=61) Z Z (by kernel_rfl) Z (gy m.2 ap (a.ro 0 Z).rp n (A.b a.fr).rp) Z ?_
      rintro _ w ⟨rfl,b⟩
      have a:=a.e b
      exact V 2 Z<|Q<|aH (d (!aM) _ _ ⟨Z,(a.d [3,2,1,0] Z Z)⟩ h) Z
 rintro aO L w hJ h
 try dsimp only at hJ
 obtain ⟨rfl,a⟩:=hJ
 unfold F.Ep at h
 refine gl9 Z h (fun h=>?_) (fun h=>?_)
 ·refine R<|V 1 Z<|gl8 ?_
  cases h
  exact ay Z Z ⟨Z,a.d [] Z Z⟩
 refine gl5<|av<|R<|V 1 Z<|N (aC u24 Z ((a.ro 2 Z).tk c)) Z<|V 1 Z<|Q ?_
 refine gl9 Z h (fun h=>?_) (fun h=>?_)
 ·refine R<|V 1 Z<|gl8 ?_
  cases h
  exact ay Z Z ⟨Z,a.d [] Z Z⟩
 refine gl6<|V 2 Z<|J h fun ad E h=>N (kk u24 ti5 Z Z (a.ro 2 Z) c E) Z<|N (a8 Tryz.underlying5 Z Z (a.ro 2 Z) (kv E) Z) Z<|N (aj Z Z (Cj _ ad 1)) Z<|J h fun aP G h=>N (kk u24 ti5 Z Z (a.ro 2 Z) c G) Z<|bl (bZ (t:=(ad ^^^ 1)) ti5 Z Z a (i:=2) Z (kv G) Z) fun w a=>a7 h fun aQ o h=>?_
 rw [o]at a
 refine gl2<|V 6 Z<|J h fun aR aq h=>bc a Z (kZ a0 a1 aq (hT.b a.fr) (y.b a.fr).rp (z.b a.fr).rp ((a.ro 2 Z).tk (by rw [←o,List.length_set]; exact c)).rp (A.b a.fr).rp) Z fun w a=>V 1 Z<|gl2<|V 6 Z<|J h fun aS ar h=>bc a Z (kP a0 a1 ar (hT.b a.fr) ((a.ro 0 Z).tk p).rp ((a.ro 1 Z).tk q).rp ((a.ro 2 Z).tk (by rw [←o,List.length_set]; exact c)).rp ((a.ro 3 Z).tk n).rp) Z fun w a=>V 3 Z<|Q<|az ?_
 cases h
 exact ay Z Z ⟨Z,a.d [] Z Z⟩
end Go.Proofs
