import Derived.Test.YtahgjafdhjbkeaaGreatDoorRW0
import Derived.Test.YtahgjafdhjbkeaaGreatDoorGkFman
import Derived.Test.YtahgjafdhjbkeaaGreatDoorRWlib
set_option linter.unusedVariables false
set_option linter.unusedSimpArgs false
set_option linter.unusedSectionVars false
set_option maxRecDepth 4000
namespace Go.Proofs
open Go Go.RowKit Go.Gk
open Go.Gk renaming aa → V, af → J, ag → N, e32 → X, gl3 → Q, gl4 → R, own → U, vB → K, vI → H
open Nat renaming le_of_ble_eq_true → W
theorem dW {k:World} {a0:List UInt32} {d:Value} {r:Nat}
  (h:F.Dj a0=some r) (a:RP [] k X d a0):Calls Tryz.prog 49 #[d] k (Ret fun v w=>v=slV3 d X.sz 0 r r∧r≤a0.length∧St [] k w []):=by
 refine aB 26 Tryz.func49 Z Z Z<|have b:=St.k k;ax [(0,d)] Z ?_
 unfold F.Dj at h
 refine R<|V 1 Z<|gl1<|ar<|j1 [(0,slV d X.sz 0 a0.length)] ⟨(congrArg some a.1.full),I⟩ ?_
 refine aT (F.GX a0) (fun (s:Nat) L w=>L=[(0,slV d X.sz 0 s)]∧s≤a0.length∧St [] k w []) ?_ a0.length ⟨Z,(Nat.le_refl _),b⟩ h
 rintro y f L w q u p h l
 try dsimp only at u
 obtain ⟨rfl,c,b⟩:=u
 unfold F.GX at h
 refine av ?_
 refine aZ (r:=q) (fun (g:Bool) L w=>L=[(0,slV d X.sz 0 f),(14,K g)]∧St [] k w []) (F.D9 a0 f) ?_ ?_
 rotate_left
 ·intro m
  refine al<|V 1 Z<|N (aC u30 Z ((a.b b.fr).tk c)) Z<|V 2 Z ?_
  cases e:(decide ((0:Int)<((a0.take f).length:Int)))
  case true=>
   have h:=cH h e
   try simp only [e]
   exact V 2 Z<|bE (t:=6) Z Z (aC u30 Z ((a.b b.fr).tk c)) Z<|V 1 Z<|J h fun o n h=>bE (t:=6) Z Z (kk u30 aN Z Z (a.b b.fr) c n) Z<|bE (t:=6) Z Z (a8 u38 Z Z (a.b b.fr) (kv n) Z) Z<|bE (t:=6) Z Z (aj Z Z (jF _ o 0)) Z<|V 1 Z<|Q<|aH (m (o == 0) _ _ ⟨Z,b⟩ h) Z
  case false=>
   have h:=cI h e
   try simp only [e]
   exact V 8 Z<|Q<|aH (m false _ _ ⟨Z,b⟩ h) Z
 rintro z L w x h
 try dsimp only at x
 obtain ⟨rfl,b⟩:=x
 unfold F.D9 at h
 refine gl9 Z h (fun h=>?_) (fun h=>?_)
 ·exact gl5<|ar<|al<|V 2 Z<|N (aC u30 Z ((a.b b.fr).tk c)) Z<|V 1 Z<|da h fun i h=>N (pH u30 aN Z Z (a.b b.fr) (iB i)) Z<|V 1 Z<|aE<|aF<|bf (bd (p ((wI (((a0.take f).length:Int) - 1):Int).toNat) _ _ ⟨Z,i.2,b⟩ (aL h l)) Z)
 refine aQ<|au<|au<|have h:=aI h l;aR<|ak<|R<|V 2 Z<|N (aC u30 Z ((a.b b.fr).tk c)) Z<|V 1 Z<|N (aC u30 Z ((a.b b.fr).tk c)) Z<|da h fun j h=>N (s9 u30 aN Z Z Z ((a.b b.fr).tk c) j) Z<|V 1 Z<|Q<|az ?_
 cases h
 exact ay Z Z ⟨(a.1.cut3 _ _),(Nat.le_trans j.2.1 (t9 _ _)),b⟩
theorem eD {m:World} {a0:List UInt8} {c:Value} {r:List UInt32}
  (h:F.Dy a0=some r) (f:RP [] m e8 c a0):Calls Tryz.prog 18 #[c] m (Ret fun v w=>St [] m w [U X v r]):=by
 refine aB 40 Tryz.func18 Z Z Z<|have a:=St.k m;ax [(0,c)] Z ?_
 unfold F.Dy at h
 refine R<|V 1 Z<|gl2<|V 1 Z<|N (aC u24 Z (f.b a.fr)) Z<|V 1 Z<|N (aj Z Z (dV _ (wI ((a0.length:Int)+3)) 4 (by decide))) Z<|J h fun E A h=>bG (dw (e:=X) u30 aN Z Z Z a A) Z fun g w a=>V 1 Z<|gl1<|R<|V 1 Z<|N (aC u24 Z (f.b a.fr)) Z<|V 1 Z<|Q<|ar<|ax [(0,c),(3,g),(12,c),(13,H (a0.length:Int)),(14,H 0)] Z ?_
 refine aT (F.FY a0) (fun (s:Int×List UInt32) L w=>L=[(0,c),(3,g),(12,c),(13,H (a0.length:Int)),(14,H s.1)]∧St [] m w [U X g s.2]) ?_ (0,E) ⟨Z,a⟩ h
 rintro ab ⟨G,S⟩ L w ae T B h n
 try dsimp only at T
 obtain ⟨rfl,a⟩:=T
 unfold F.FY at h
 refine R<|V 1 Z<|gl1 ?_
 refine gl9 Z h (fun h=>?_) (fun h=>?_)
 ·refine gl5<|av<|ar<|R<|V 1 Z<|J h fun j o h=>N (bk u24 ti5 Z Z (f.b a.fr) o) Z<|N (a8 Tryz.underlying5 Z Z (f.b a.fr) o Z) Z<|V 2 Z<|gl2<|V 1 Z<|N (aC u24 Z (f.b a.fr)) Z<|V 3 Z<|a7 h fun b q h=>N (a9 (v:=H b) (by rw [←q]; rfl)) Z<|Q<|de (fun w'=>St [] m w' [U X g S]) (fun i=>!([13].contains i)) bR (fun _ _ _ C=>C.2) (fun _ _ C=>C) (by kernel_rfl)<|have a:=a.drew;show lxE _ _ _ _ _ _ _ [0,1,2,3,4,5,6,7,8,9,10,11,12,13] _ _ from an 2 Z a<|ai a Z Z (fun w d=>aj Z Z (dV _ b 4 (by decide))) Z<|J h fun p k h=>ai a Z Z (fun w d=>bk u30 aN Z Z (d.ro 0 Z) k) Z<|ai a Z Z (fun w d=>a8 u38 Z Z (d.ro 0 Z) k Z) Z<|an 1 Z a<|ai a Z Z (fun w d=>aD Z (eM Tryz.underlying5 u38 j)) Z<|an 1 Z a<|ai a Z Z (fun w d=>aj Z Z (fW _ b 4 (by decide))) Z<|ai a Z Z (fun w d=>aj Z Z (dR _ 8 (Int.tmod b 4))) Z<|da h fun u h=>ai a Z Z (fun w d=>aj Z Z (qI _ j.toUInt32 (wI (8*(Int.tmod b 4))) u)) Z<|ai a Z Z (fun w d=>aj Z Z (eo _ p (bN j.toUInt32 (((wI (8*(Int.tmod b 4)))).toNat)))) Z ?_
  refine J h fun ac l h=>ai a Z Z (fun w d=>bk u30 aN Z Z (d.ro 0 Z) l) Z<|fU a Z Z (bZ (t:=(p ||| (bN j.toUInt32 (((wI (8*(Int.tmod b 4)))).toNat)))) aN Z Z a (i:=0) Z l Z) fun w a=>a7 h fun D x h=>?_
  rw [x]at a
  exact bn I<|aF<|ak<|al<|V 2 Z<|aE<|bf (bd (B (wI (G+1),D) _ _ ⟨Z,a⟩ (aL h n)) Z)
 refine aQ<|au<|au<|have h:=aI h n;aR<|ak<|R<|V 1 Z<|J h fun ad y h=>dJ a Z (dW  y (a.ro 0 Z).rp) Z fun z w a=>V 1 Z<|Q<|az ?_
 cases h
 replace a:=a.trunc3 (i:=0) rfl z
 exact ay Z Z (a.d [0] Z Z)
theorem dA {b:World} {a0:List UInt32} {a:Value} {r:Nat}
  (h:F.C9 a0=some r) (f:RP [] b X a a0):Calls Tryz.prog 110 #[a] b (Ret fun v w=>v=slV3 a X.sz 0 r r∧r≤a0.length∧St [] b w []):=by
 refine aB 5 Tryz.func110 Z Z Z<|have c:=St.k b;ax [(0,a)] Z ?_
 unfold F.C9 at h
 refine R<|V 1 Z<|gl2<|V 1 Z<|J h fun g d h=>dJ c Z (dW  d (f.b c.fr).rp) Z fun e w c=>V 1 Z<|Q<|az ?_
 cases h
 exact ay Z Z ⟨Z,e,c⟩
theorem gq {f:World} {a0:List UInt32} {d:Value} {r:Int}
  (h:F.DD a0=some r) (c:RP [] f X d a0):Calls Tryz.prog 50 #[d] f (Ret fun v w=>v=H r∧St [] f w []):=by
 refine aB 21 Tryz.func50 Z Z Z<|have a:=St.k f;ax [(0,d)] Z ?_
 unfold F.DD at h
 refine R<|V 1 Z<|gl2<|V 1 Z<|J h fun j g h=>dJ a Z (dA  g (c.b a.fr).rp) Z fun b w a=>V 1 Z<|gl1<|R<|V 1 Z<|N (aC u30 Z ((c.tk3 b).b a.fr)) Z<|V 1 Z<|Q ?_
 refine gl9 Z h (fun h=>?_) (fun h=>?_)
 ·refine R<|V 1 Z<|gl8 ?_
  cases h
  exact ay Z Z ⟨Z,a⟩
 refine gl6<|V 1 Z<|N (aC u30 Z ((c.tk3 b).b a.fr)) Z<|V 1 Z<|N (aj Z Z (dR _ 32 (wI (((a0.take j).length:Int) - 1)))) Z<|V 2 Z<|N (aC u30 Z ((c.tk3 b).b a.fr)) Z<|V 1 Z<|J h fun k e h=>N (bk u30 aN Z Z ((c.tk3 b).b a.fr) e) Z<|N (a8 u38 Z Z ((c.tk3 b).b a.fr) e Z) Z<|J h fun l i h=>bc a Z (js k i ) Z fun w a=>V 2 Z<|Q<|az ?_
 cases h
 exact ay Z Z ⟨Z,a⟩
theorem gX {i:World} {a0 a1:List UInt32} {j k:Value} {r:Int}
  (h:F.Dz a0 a1=some r) (e:RP [] i X j a0) (f:RP [] i X k a1):Calls Tryz.prog 51 #[j,k] i (Ret fun v w=>v=H r∧St [] i w []):=by
 refine aB 51 Tryz.func51 Z Z Z<|have a:=St.k i;ax [(0,j),(1,k)] Z ?_
 unfold F.Dz at h
 refine R<|V 1 Z<|gl2<|V 1 Z<|J h fun l x h=>dJ a Z (dA  x (e.b a.fr).rp) Z fun c w a=>V 1 Z<|J h fun m y h=>dJ a Z (dA  y (f.b a.fr).rp) Z fun d w a=>V 2 Z<|gl1<|ar<|R<|V 1 Z<|N (aC u30 Z ((e.tk3 c).b a.fr)) Z<|V 1 Z<|N (aC u30 Z ((f.tk3 d).b a.fr)) Z<|V 2 Z<|Q ?_
 refine gl9 Z h (fun h=>?_) (fun h=>?_)
 ·refine R<|V 1 Z<|Q<|az<|bA<|aW ?_
  cases h
  exact ay Z Z ⟨Z,a⟩
 refine R<|V 1 Z<|N (aC u30 Z ((e.tk3 c).b a.fr)) Z<|V 1 Z<|N (aC u30 Z ((f.tk3 d).b a.fr)) Z<|V 2 Z<|Q ?_
 refine gl9 Z h (fun h=>?_) (fun h=>?_)
 ·refine R<|V 1 Z<|Q<|az<|bA<|aW ?_
  cases h
  exact ay Z Z ⟨Z,a⟩
 refine cd<|aF<|ak<|av<|R<|V 1 Z<|N (aC u30 Z ((e.tk3 c).b a.fr)) Z<|V 1 Z<|a7 h fun u z h=>N (a9 (v:=H u) (by rw [←z]; rfl)) Z<|Q<|ar<|ax [(5,slV3 j X.sz 0 l l),(6,slV3 k X.sz 0 m m),(7,H u)] Z ?_
 refine aT (F.EW a0 a1 l m) (fun (s:Int) L w=>L=[(5,slV3 j X.sz 0 l l),(6,slV3 k X.sz 0 m m),(7,H s)]∧St [] i w []) ?_ u ⟨Z,a⟩ h
 rintro T G L w ab S A h g
 try dsimp only at S
 obtain ⟨rfl,a⟩:=S
 unfold F.EW at h
 refine av<|R<|V 2 Z<|Q ?_
 refine gl9 Z h (fun h=>?_) (fun h=>?_)
 ·refine gl5<|av<|ar<|ar<|av<|aX (fun w'=>St [] i w' []) (fun _=>true) bR (fun _ _ _ n=>n.2) (fun _ _ n=>n) (by kernel_rfl)<|have a:=a.drew;show lxE _ _ _ _ _ _ _ [0,1,2,3,4,5,6,7,8,9] _ _ from an 2 Z a<|J h fun B o h=>ai a Z Z (fun w b=>bk u30 aN Z Z ((e.tk3 c).b b.fr) o) Z<|ai a Z Z (fun w b=>a8 u38 Z Z ((e.tk3 c).b b.fr) o Z) Z<|an 2 Z a<|J h fun C p h=>ai a Z Z (fun w b=>bk u30 aN Z Z ((f.tk3 d).b b.fr) p) Z<|ai a Z Z (fun w b=>a8 u38 Z Z ((f.tk3 d).b b.fr) p Z) Z<|ai a Z Z (fun w b=>aj Z Z (qe _ B C)) Z<|an 1 Z a<|bn a<|ak ?_
  refine gl9 Z h (fun h=>?_) (fun h=>?_)
  ·refine R<|V 1 Z<|Q<|az<|bA<|bA<|aW<|aW<|have h:=aI h g;bA<|aW ?_
   cases h
   exact ay Z Z ⟨Z,a⟩
  refine av<|aX (fun w'=>St [] i w' []) (fun _=>true) bR (fun _ _ _ n=>n.2) (fun _ _ n=>n) (by kernel_rfl)<|have a:=a.drew;show lxE _ _ _ _ _ _ _ [0,1,2,3,4,5,6,7,8,9] _ _ from an 2 Z a<|J h fun D q h=>ai a Z Z (fun w b=>bk u30 aN Z Z ((e.tk3 c).b b.fr) q) Z<|ai a Z Z (fun w b=>a8 u38 Z Z ((e.tk3 c).b b.fr) q Z) Z<|an 2 Z a<|J h fun E t h=>ai a Z Z (fun w b=>bk u30 aN Z Z ((f.tk3 d).b b.fr) t) Z<|ai a Z Z (fun w b=>a8 u38 Z Z ((f.tk3 d).b b.fr) t Z) Z<|ai a Z Z (fun w b=>aj Z Z (Ba _ D E)) Z<|an 1 Z a<|bn a<|ak ?_
  refine gl9 Z h (fun h=>?_) (fun h=>?_)
  ·refine R<|V 1 Z<|Q<|az<|bA<|bA<|aW<|aW<|have h:=aI h g;bA<|aW ?_
   cases h
   exact ay Z Z ⟨Z,a⟩
  exact cd<|aF<|aF<|ak<|al<|V 3 Z<|aE<|bf (bd (A (wI (G - 1)) _ _ ⟨Z,a⟩ (aL h g)) Z)
 refine aQ<|au<|au<|have h:=aI h g;aR<|ak<|R<|V 1 Z<|Q<|az ?_
 cases h
 exact ay Z Z ⟨Z,a⟩
theorem tQ {j:World} {a0:List UInt32} {b:Value} (a1:UInt32) {r:List UInt32×UInt32}
  (h:F.HK a0 a1=some r) (c:RP [] j X b a0):Calls Tryz.prog 127 #[b,v32 a1] j (Ret fun v w=>∃u0:Value,v=.tuple #[u0,v32 r.2]∧St [] j w [U X u0 r.1]):=by
 refine aB 34 Tryz.func127 Z Z Z<|have a:=St.k j;ax [(0,b),(1,v32 a1)] Z ?_
 unfold F.HK at h
 refine R<|V 2 Z<|gl2<|V 1 Z<|N (aC u30 Z (c.b a.fr)) Z<|J h fun z p h=>bG (dw (e:=X) u30 aN Z Z Z a p) Z fun d w a=>V 1 Z<|gl2<|V 1 Z<|gl1<|R<|V 1 Z<|N (aC u30 Z (c.b a.fr)) Z<|V 1 Z<|a7 h fun k q h=>N (a9 (v:=H k) (by rw [←q]; rfl)) Z<|Q<|ar<|ax [(0,b),(1,v32 a1),(6,d),(7,v32 0),(8,H k)] Z ?_
 refine aT (F.Fh a0 a1) (fun (s:UInt32×Int×List UInt32) L w=>L=[(0,b),(1,v32 a1),(6,d),(7,v32 s.1),(8,H s.2.1)]∧St [] j w [U X d s.2.2]) ?_ (0,k,z) ⟨Z,a⟩ h
 rintro D ⟨A,B,S⟩ L w E C u h l
 try dsimp only at C
 obtain ⟨rfl,a⟩:=C
 unfold F.Fh at h
 refine av<|R<|V 2 Z<|Q ?_
 refine gl9 Z h (fun h=>?_) (fun h=>?_)
 ·refine gl5<|av<|ar<|al<|V 5 Z<|J h fun x f h=>N (bk u30 aN Z Z (c.b a.fr) f) Z<|N (a8 u38 Z Z (c.b a.fr) f Z) Z<|V 1 Z<|J h fun m n h=>bc a Z (oh A x a1 n ) Z fun w a=>V 3 Z<|J h fun G g h=>N (bk u30 aN Z Z (a.ro 0 Z) g) Z<|bl (bZ (t:=m.1) aN Z Z a (i:=0) Z g Z) fun w a=>a7 h fun y o h=>?_
  rw [o]at a
  exact V 1 Z<|aE<|aF<|ak<|al<|V 3 Z<|aE<|bf (bd (u (m.2,wI (B - 1),y) _ _ ⟨Z,a⟩ (aL h l)) Z)
 refine aQ<|au<|au<|have h:=aI h l;aR<|ak<|R<|V 4 Z<|Q<|az ?_
 cases h
 exact cf Z Z Z ⟨d,Z,a.d [0] Z Z⟩
theorem qw {b:World} (a0:UInt64) {r:List UInt32}
  (h:F.H9 a0=some r) :Calls Tryz.prog 128 #[v64 a0] b (Ret fun v w=>St [] b w [U X v r]):=by
 refine aB 10 Tryz.func128 Z Z Z<|have a:=St.k b;ax [(0,v64 a0)] Z ?_
 unfold F.H9 at h
 refine R<|V 1 Z<|gl2<|V 1 Z<|N (aD Z (ca u119 u38 a0)) Z<|V 1 Z<|N (aj Z Z (cc _ a0 32)) Z<|N (aD Z (ca u119 u38 (aM a0 32))) Z<|bG (cp (e:=X) (l:=([a0.toUInt32,(aM a0 32).toUInt32]:List UInt32)) (vs:=[v32 a0.toUInt32,v32 ((aM a0 32).toUInt32)]) u30 aN Z Z Z Z (by decide) (by decide) a) Z fun f w a=>J h fun g c h=>dJ a Z (dW  c (a.ro 0 Z).rp) Z fun d w a=>V 1 Z<|Q<|az ?_
 cases h
 replace a:=a.trunc3 (i:=0) rfl d
 exact ay Z Z (a.d [0] Z Z)
theorem tw {k:World} {a0 a1:List UInt32} {j e f:Value} {S:List Nat} (a d:Nat) (a2:Int) {r:List UInt32}
  (h:F.Gi a0 a d a1 a2=some r) (b:St S k k [U X j a0]) (p:mI j X.sz a d f) (q:RP S k X e a1):Calls Tryz.prog 160 #[f,e,H a2] k (Ret fun v w=>v=.tuple #[]∧St S k w [U X j r]):=by
 refine aB 37 Tryz.func160 Z Z Z<|ax [(0,f),(1,e),(2,H a2)] Z ?_
 unfold F.Gi at h
 refine R<|V 1 Z<|gl2<|V 1 Z<|N (aC u30 Z ((b.ro 0 Z).po p)) Z<|V 1 Z<|Q<|ar<|ax [(0,f),(1,e),(2,H a2),(6,v32 0),(10,H (((a0.drop a).take (d - a)).length:Int)),(11,H 0)] Z ?_
 refine aT (F.E5 a d a0 a1 a2) (fun (s:UInt32×Int×List UInt32) L w=>L=[(0,f),(1,e),(2,H a2),(6,v32 s.1),(10,H (((a0.drop a).take (d - a)).length:Int)),(11,H s.2.1)]∧St S k w [U X j s.2.2]) ?_ (0,0,a0) ⟨Z,b⟩ h
 rintro ae ⟨l,m,D⟩ L w T hI E h u
 try dsimp only at hI
 obtain ⟨rfl,b⟩:=hI
 unfold F.E5 at h
 refine R<|V 1 Z<|gl1 ?_
 refine gl9 Z h (fun h=>?_) (fun h=>?_)
 ·refine gl5<|av<|ar<|R<|V 2 Z<|gl2<|V 1 Z<|Q ?_
  refine aZ (r:=T) (fun (g:UInt32) L w=>L=[(0,f),(1,e),(2,H a2),(6,v32 l),(7,H m),(8,v32 g),(10,H (((a0.drop a).take (d - a)).length:Int)),(11,H m)]∧St S k w [U X j D]) (F.G3 a d a2 l m D) ?_ ?_
  rotate_left
  ·intro n
   refine R<|V 2 Z<|N (aC u30 Z (q.b b.fr)) Z<|V 1 Z<|Q ?_
   refine gl9 Z h (fun h=>?_) (fun h=>?_)
   ·exact al<|V 2 Z<|J h fun ac x h=>N (bk u30 aN Z Z (q.b b.fr) x) Z<|N (a8 u38 Z Z (q.b b.fr) x Z) Z<|V 1 Z<|Q<|aH (n ac _ _ ⟨Z,b⟩ h) Z
   exact gl5<|aH (n 0 _ _ ⟨Z,b⟩ h) Z
  rintro c L w hJ h
  try dsimp only at hJ
  obtain ⟨rfl,b⟩:=hJ
  unfold F.G3 at h
  refine R<|V 4 Z<|da h fun z h=>N (aj Z Z (qI _ c a2 z)) Z<|V 1 Z<|N (aj Z Z (eo _ (bN c ((a2).toNat)) l)) Z<|J h fun ah o h=>N (bk u30 aN Z Z ((b.ro 0 Z).po p) o) Z<|bl (tu (t:=((bN c ((a2).toNat)) ||| l)) aN Z Z b (i:=0) Z p o Z) fun w b=>a7 h fun G A h=>?_
  rw [A]at b
  exact Q<|al<|V 1 Z<|N (aD Z (bD u38 u119 c)) Z<|V 1 Z<|da h fun B h=>N (aj Z Z (xr _ c.toUInt64 a2 B)) Z<|N (aj Z Z (cc _ (bB c.toUInt64 ((a2).toNat)) 32)) Z<|N (aD Z (ca u119 u38 (aM (bB c.toUInt64 ((a2).toNat)) 32))) Z<|a7 h fun y C h=>N (a9 (v:=v32 y) (by rw [←C]; rfl)) Z<|aE<|aF<|ak<|al<|V 2 Z<|aE<|bf (bd (E (y,wI (m+1),G) _ _ ⟨Z,b⟩ (aL h u)) Z)
 refine aQ<|au<|au<|have h:=aI h u;aR ?_
 cases h
 exact ib Z ⟨Z,b.d [0] Z Z⟩
theorem qi {j:World} {a0 a1:List UInt32} {m n:Value} {r:UInt64}
  (h:F.Iv a0 a1=some r) (o:RP [] j X m a0) (e:RP [] j X n a1):Calls Tryz.prog 161 #[m,n] j (Ret fun v w=>v=v64 r∧St [] j w []):=by
 refine aB 75 Tryz.func161 Z Z Z<|have a:=St.k j;ax [(0,m),(1,n)] Z ?_
 unfold F.Iv at h
 refine R<|V 1 Z<|gl2<|V 1 Z<|N (aC u30 Z (e.b a.fr)) Z<|V 1 Z<|gl1<|aX (fun w'=>St [] j w' []) (fun _=>true) bR (fun _ _ _ k=>k.2) (fun _ _ k=>k) (by kernel_rfl)<|have a:=a.drew;show lxE _ _ _ _ _ _ _ [0,1,2,3,4,5,6,7,8,9,10,11,12,13] _ _ from an 2 Z a<|J h fun G S h=>ai a Z Z (fun w c=>bk u30 aN Z Z (o.b c.fr) S) Z<|ai a Z Z (fun w c=>a8 u38 Z Z (o.b c.fr) S Z) Z<|ai a Z Z (fun w c=>aD Z (bD u38 u119 G)) Z<|ai a Z Z (fun w c=>aj Z Z (dr _ G.toUInt64 32)) Z<|an 3 Z a<|J h fun ah T h=>ai a Z Z (fun w c=>bk u30 aN Z Z (o.b c.fr) T) Z<|ai a Z Z (fun w c=>a8 u38 Z Z (o.b c.fr) T Z) Z<|ai a Z Z (fun w c=>aD Z (bD u38 u119 ah)) Z<|ai a Z Z (fun w c=>aj Z Z (eX _ (bB G.toUInt64 32) ah.toUInt64)) Z<|a7 h fun l al h=>ai a Z Z (fun w c=>a9 (v:=v64 l) (by rw [←al]; rfl)) Z<|bn a<|ak<|av<|aX (fun w'=>St [] j w' []) (fun _=>true) bR (fun _ _ _ k=>k.2) (fun _ _ k=>k) (by kernel_rfl)<|have a:=a.drew;show lxE _ _ _ _ _ _ _ [0,1,2,3,4,5,6,7,8,9,10,11,12,13,14,15,16,17] _ _ from ?_
 refine an 4 Z a<|J h fun y ab h=>ai a Z Z (fun w c=>bk u30 aN Z Z (e.b c.fr) ab) Z<|ai a Z Z (fun w c=>a8 u38 Z Z (e.b c.fr) ab Z) Z<|ai a Z Z (fun w c=>aD Z (bD u38 u119 y)) Z<|da h fun am h=>ai a Z Z (fun w c=>aj Z Z (iL _ l y.toUInt64 am)) Z<|an 4 Z a<|J h fun z ac h=>ai a Z Z (fun w c=>bk u30 aN Z Z (e.b c.fr) ac) Z<|ai a Z Z (fun w c=>a8 u38 Z Z (e.b c.fr) ac Z) Z<|ai a Z Z (fun w c=>aD Z (bD u38 u119 z)) Z<|da h fun ao h=>ai a Z Z (fun w c=>aj Z Z (fx _ l z.toUInt64 ao)) Z<|an 2 Z a<|bn a<|ak ?_
 refine aZ (r:=r) (fun (g:UInt64) L w=>L=[(7,v64 g)]∧St [] j w []) (F.IJ) ?_ ?_
 rotate_left
 ·intro A
  refine ar<|ax [(0,m),(1,n),(5,H (a1.length:Int)),(7,v64 (l / y.toUInt64)),(8,v64 (l%z.toUInt64))] Z ?_
  refine aT (F.DP a0 a1) (fun (s:UInt64×UInt64) L w=>L=[(0,m),(1,n),(5,H (a1.length:Int)),(7,v64 s.1),(8,v64 s.2)]∧St [] j w []) ?_ (l / y.toUInt64,l%z.toUInt64) ⟨Z,a⟩ h
  rintro aw ⟨d,f⟩ L w ap hI ae h p
  try dsimp only at hI
  obtain ⟨rfl,a⟩:=hI
  unfold F.DP at h
  refine av ?_
  refine aZ (r:=ap) (fun (g:Bool) L w=>L=[(0,m),(1,n),(5,H (a1.length:Int)),(7,v64 d),(8,v64 f),(61,K g)]∧St [] j w []) (F.Eu a1 d f) ?_ ?_
  rotate_left
  ·intro B
   refine aX (fun w'=>St [] j w' []) (fun _=>true) bR (fun _ _ _ k=>k.2) (fun _ _ k=>k) (by kernel_rfl)<|have a:=a.drew;show lxE _ _ _ _ _ _ _ [0,1,2,3,4,5,6,7,8,9,10,11,12,13,14,15,16,17,18,19,20,21] _ _ from an 1 Z a<|ai a Z Z (fun w c=>aj Z Z (ut _ d 4294967296)) Z<|an 1 Z a ?_
   cases i:(decide ((4294967296:UInt64)≤d))
   case true=>
    have h:=cH h i
    try simp only [i]
    exact ce (b:=true) (t:=42) a Z Z Z Z Z Z<|ce (b:=true) (t:=42) a Z Z Z Z Z Z<|ce (b:=true) (t:=42) a Z Z Z Z Z Z<|ce (b:=true) (t:=42) a Z Z Z Z Z Z<|ce (b:=true) (t:=42) a Z Z Z Z Z Z<|ce (b:=true) (t:=42) a Z Z Z Z Z Z<|ce (b:=true) (t:=42) a Z Z Z Z Z Z<|ce (b:=true) (t:=42) a Z Z Z Z Z Z<|ce (b:=true) (t:=42) a Z Z Z Z Z Z<|ce (b:=true) (t:=42) a Z Z Z Z Z Z<|ce (b:=true) (t:=42) a Z Z Z Z Z Z<|ce (b:=true) (t:=42) a Z Z Z Z Z Z<|ce (b:=true) (t:=42) a Z Z Z Z Z Z<|ce (b:=true) (t:=42) a Z Z Z Z Z Z<|ce (b:=true) (t:=42) a Z Z Z Z Z Z<|ce (b:=true) (t:=42) a Z Z Z Z Z Z<|ce (b:=true) (t:=42) a Z Z Z Z Z Z<|ce (b:=true) (t:=42) a Z Z Z Z Z Z<|an 1 Z a<|bn a<|ak<|aH (B true _ _ ⟨Z,a⟩ h) Z
   case false=>
    have h:=cI h i
    try simp only [i]
    refine cV (t:=42) a Z Z Z Z (fun w c=>dZ Z) Z<|cV (t:=42) a Z Z Z Z (fun w c=>dZ Z) Z<|cV (t:=42) a Z Z Z Z (fun w c=>dZ Z) Z<|cV (t:=42) a Z Z Z Z (fun w c=>aj Z Z (tx _ (a1.length:Int) 2)) Z<|J h fun q C h=>cV (t:=42) a Z Z Z Z (fun w c=>bk u30 aN Z Z (e.b c.fr) C) Z<|cV (t:=42) a Z Z Z Z (fun w c=>a8 u38 Z Z (e.b c.fr) C Z) Z<|cV (t:=42) a Z Z Z Z (fun w c=>aD Z (bD u38 u119 q)) Z<|cV (t:=42) a Z Z Z Z (fun w c=>aj Z Z (gx _ d q.toUInt64)) Z<|cV (t:=42) a Z Z Z Z (fun w c=>dZ Z) Z<|cV (t:=42) a Z Z Z Z (fun w c=>aj Z Z (dr _ f 32)) Z<|cV (t:=42) a Z Z Z Z (fun w c=>dZ Z) Z<|cV (t:=42) a Z Z Z Z (fun w c=>dZ Z) Z<|cV (t:=42) a Z Z Z Z (fun w c=>aj Z Z (tx _ (a1.length:Int) 2)) Z<|J h fun u D h=>cV (t:=42) a Z Z Z Z (fun w c=>bk u30 aN Z Z (o.b c.fr) D) Z<|cV (t:=42) a Z Z Z Z (fun w c=>a8 u38 Z Z (o.b c.fr) D Z) Z<|cV (t:=42) a Z Z Z Z (fun w c=>aD Z (bD u38 u119 u)) Z<|cV (t:=42) a Z Z Z Z (fun w c=>aj Z Z (eX _ (bB f 32) u.toUInt64)) Z ?_
    exact cV (t:=42) a Z Z Z Z (fun w c=>aj Z Z (jJ _ (d*q.toUInt64) ((bB f 32) ||| u.toUInt64))) Z<|an 1 Z a<|bn a<|ak<|aH (B (decide (((bB f 32) ||| u.toUInt64)<(d*q.toUInt64))) _ _ ⟨Z,a⟩ h) Z
  rintro aA L w hJ h
  try dsimp only at hJ
  obtain ⟨rfl,a⟩:=hJ
  unfold F.Eu at h
  refine gl9 Z h (fun h=>?_) (fun h=>?_)
  ·refine gl5<|ar<|R<|V 1 Z<|N (aj Z Z (eA _ d 1)) Z<|V 1 Z<|gl2<|V 4 Z<|J h fun x E h=>N (bk u30 aN Z Z (e.b a.fr) E) Z<|N (a8 u38 Z Z (e.b a.fr) E Z) Z<|N (aD Z (bD u38 u119 x)) Z<|N (aj Z Z (bU _ f x.toUInt64)) Z<|V 1 Z<|gl2<|V 1 Z<|N (aj Z Z (ut _ (f+x.toUInt64) 4294967296)) Z<|Q ?_
   refine gl9 Z h (fun h=>?_) (fun h=>?_)
   ·exact aQ<|oK Z<|au<|have h:=aI h p;aR<|ak<|aH (A (d - 1) _ _ ⟨Z,a⟩ h) Z
   exact cd<|aF<|bf (bd (ae (d - 1,f+x.toUInt64) _ _ ⟨Z,a⟩ (aL h p)) Z)
  exact aQ<|au<|au<|have h:=aI h p;aR<|ak<|aH (A d _ _ ⟨Z,a⟩ h) Z
 rintro aE L w hJ h
 try dsimp only at hJ
 obtain ⟨rfl,a⟩:=hJ
 unfold F.IJ at h
 refine R<|V 2 Z<|Q<|az ?_
 cases h
 exact ay Z Z ⟨Z,a⟩
theorem tR {c:World} {a0 a1:List UInt32} {d e:Value} {r:Bool}
  (h:F.E9 a0 a1=some r) (f:RP [] c X d a0) (j:RP [] c X e a1):Calls Tryz.prog 162 #[d,e] c (Ret fun v w=>v=K r∧St [] c w []):=by
 refine aB 31 Tryz.func162 Z Z Z<|have a:=St.k c;ax [(0,d),(1,e)] Z ?_
 unfold F.E9 at h
 refine R<|V 1 Z<|gl1<|R<|V 1 Z<|N (aC u30 Z (f.b a.fr)) Z<|V 1 Z<|a7 h fun k p h=>N (a9 (v:=H k) (by rw [←p]; rfl)) Z<|Q<|ar<|ax [(0,d),(1,e),(5,H k)] Z ?_
 refine aT (F.DI a0 a1) (fun (s:Int) L w=>L=[(0,d),(1,e),(5,H s)]∧St [] c w []) ?_ k ⟨Z,a⟩ h
 rintro B t L w C u q h g
 try dsimp only at u
 obtain ⟨rfl,a⟩:=u
 unfold F.DI at h
 refine av<|R<|V 2 Z<|Q ?_
 refine gl9 Z h (fun h=>?_) (fun h=>?_)
 ·refine gl5<|av<|ar<|av<|aX (fun w'=>St [] c w' []) (fun _=>true) bR (fun _ _ _ i=>i.2) (fun _ _ i=>i) (by kernel_rfl)<|have a:=a.drew;show lxE _ _ _ _ _ _ _ [0,1,2,3,4,5,6,7,8] _ _ from an 2 Z a<|J h fun x l h=>ai a Z Z (fun w b=>bk u30 aN Z Z (f.b b.fr) l) Z<|ai a Z Z (fun w b=>a8 u38 Z Z (f.b b.fr) l Z) Z<|an 2 Z a<|J h fun y m h=>ai a Z Z (fun w b=>bk u30 aN Z Z (j.b b.fr) m) Z<|ai a Z Z (fun w b=>a8 u38 Z Z (j.b b.fr) m Z) Z<|ai a Z Z (fun w b=>aj Z Z (nO _ x y)) Z<|bn a<|ak ?_
  refine gl9 Z h (fun h=>?_) (fun h=>?_)
  ·refine av<|aX (fun w'=>St [] c w' []) (fun _=>true) bR (fun _ _ _ i=>i.2) (fun _ _ i=>i) (by kernel_rfl)<|have a:=a.drew;show lxE _ _ _ _ _ _ _ [0,1,2,3,4,5,6,7,8,9] _ _ from an 2 Z a<|J h fun z n h=>ai a Z Z (fun w b=>bk u30 aN Z Z (f.b b.fr) n) Z<|ai a Z Z (fun w b=>a8 u38 Z Z (f.b b.fr) n Z) Z<|an 2 Z a<|J h fun A o h=>ai a Z Z (fun w b=>bk u30 aN Z Z (j.b b.fr) o) Z<|ai a Z Z (fun w b=>a8 u38 Z Z (j.b b.fr) o Z) Z<|ai a Z Z (fun w b=>aj Z Z (qe _ z A)) Z<|an 1 Z a<|bn a<|ak<|az<|bA<|aW<|aW<|have h:=aI h g;bA<|aW ?_
   cases h
   exact ay Z Z ⟨Z,a⟩
  exact cd<|aF<|ak<|al<|V 3 Z<|aE<|bf (bd (q (wI (t - 1)) _ _ ⟨Z,a⟩ (aL h g)) Z)
 refine aQ<|au<|au<|have h:=aI h g;aR<|ak<|R<|V 1 Z<|Q<|az ?_
 cases h
 exact ay Z Z ⟨Z,a⟩
theorem pa {k:World} {a0 a1:List UInt32} {f d e:Value} {S:List Nat} (b c:Nat) {r:UInt32×List UInt32}
  (h:F.D6 a0 b c a1=some r) (a:St S k k [U X f a0]) (j:mI f X.sz b c e) (p:RP S k X d a1):Calls Tryz.prog 152 #[e,d] k (Ret fun v w=>v=v32 r.1∧St S k w [U X f r.2]):=by
 refine aB 36 Tryz.func152 Z Z Z<|ax [(0,e),(1,d)] Z ?_
 unfold F.D6 at h
 refine R<|V 1 Z<|gl2<|V 1 Z<|gl1<|R<|V 1 Z<|N (aC u30 Z ((a.ro 0 Z).po j)) Z<|V 1 Z<|Q<|ar<|ax [(0,e),(1,d),(5,v32 0),(9,H (((a0.drop b).take (c - b)).length:Int)),(10,H 0)] Z ?_
 refine aT (F.Fk b c a0 a1) (fun (s:UInt32×Int×List UInt32) L w=>L=[(0,e),(1,d),(5,v32 s.1),(9,H (((a0.drop b).take (c - b)).length:Int)),(10,H s.2.1)]∧St S k w [U X f s.2.2]) ?_ (0,0,a0) ⟨Z,a⟩ h
 rintro ae ⟨q,l,B⟩ L w T hI C h u
 try dsimp only at hI
 obtain ⟨rfl,a⟩:=hI
 unfold F.Fk at h
 refine R<|V 1 Z<|gl1 ?_
 refine gl9 Z h (fun h=>?_) (fun h=>?_)
 ·refine gl5<|av<|ar<|R<|V 2 Z<|gl2<|V 1 Z<|Q ?_
  refine aZ (r:=T) (fun (g:UInt32) L w=>L=[(0,e),(1,d),(5,v32 q),(6,H l),(7,v32 g),(9,H (((a0.drop b).take (c - b)).length:Int)),(10,H l)]∧St S k w [U X f B]) (F.FP b c q l B) ?_ ?_
  rotate_left
  ·intro m
   refine R<|V 2 Z<|N (aC u30 Z (p.b a.fr)) Z<|V 1 Z<|Q ?_
   refine gl9 Z h (fun h=>?_) (fun h=>?_)
   ·exact al<|V 2 Z<|J h fun ac x h=>N (bk u30 aN Z Z (p.b a.fr) x) Z<|N (a8 u38 Z Z (p.b a.fr) x Z) Z<|V 1 Z<|Q<|aH (m ac _ _ ⟨Z,a⟩ h) Z
   exact gl5<|aH (m 0 _ _ ⟨Z,a⟩ h) Z
  rintro D L w hJ h
  try dsimp only at hJ
  obtain ⟨rfl,a⟩:=hJ
  unfold F.FP at h
  refine al<|V 4 Z<|J h fun E n h=>N (bk u30 aN Z Z ((a.ro 0 Z).po j) n) Z<|N (a8 u38 Z Z ((a.ro 0 Z).po j) n Z) Z<|V 2 Z<|J h fun y z h=>bc a Z (od E D q z ) Z fun w a=>V 3 Z<|J h fun ah o h=>N (bk u30 aN Z Z ((a.ro 0 Z).po j) o) Z<|bl (tu (t:=y.1) aN Z Z a (i:=0) Z j o Z) fun w a=>a7 h fun G A h=>?_
  rw [A]at a
  exact V 1 Z<|aE<|aF<|ak<|al<|V 2 Z<|aE<|bf (bd (C (y.2,wI (l+1),G) _ _ ⟨Z,a⟩ (aL h u)) Z)
 refine aQ<|au<|au<|have h:=aI h u;aR<|ak<|R<|V 2 Z<|Q<|az ?_
 cases h
 exact ay Z Z ⟨Z,a.d [0] Z Z⟩
theorem o7 {j:World} {a0:List UInt32} {b:Value} {S:List Nat} (a1:Int) {r:List UInt32}
  (h:F.Hm a0 a1=some r) (a:St S j j [U X b a0]):Calls Tryz.prog 151 #[b,H a1] j (Ret fun v w=>v=.tuple #[]∧St S j w [U X b r]):=by
 refine aB 38 Tryz.func151 Z Z Z<|ax [(0,b),(1,H a1)] Z ?_
 unfold F.Hm at h
 refine R<|V 1 Z<|N (aC u30 Z (a.ro 0 Z)) Z<|V 1 Z<|Q<|ar<|ax [(0,b),(1,H a1),(7,H (a0.length:Int)),(8,H 0)] Z ?_
 refine aT (F.FG a0 a1) (fun (s:Int×List UInt32) L w=>L=[(0,b),(1,H a1),(7,H (a0.length:Int)),(8,H s.1)]∧St S j w [U X b s.2]) ?_ (0,a0) ⟨Z,a⟩ h
 rintro E ⟨d,u⟩ L w B C y h k
 try dsimp only at C
 obtain ⟨rfl,a⟩:=C
 unfold F.FG at h
 refine R<|V 1 Z<|gl1 ?_
 refine gl9 Z h (fun h=>?_) (fun h=>?_)
 ·refine gl5<|av<|ar<|R<|V 2 Z<|gl2<|V 2 Z<|J h fun l m h=>N (bk u30 aN Z Z (a.ro 0 Z) m) Z<|N (a8 u38 Z Z (a.ro 0 Z) m Z) Z<|N (aD Z (bD u38 u119 l)) Z<|V 1 Z<|Q ?_
  refine aZ (r:=B) (fun (g:UInt64) L w=>L=[(0,b),(1,H a1),(4,H d),(5,v64 g),(7,H (a0.length:Int)),(8,H d)]∧St S j w [U X b u]) (F.FZ a1 d u) ?_ ?_
  rotate_left
  ·intro e
   refine R<|V 3 Z<|N (aC u30 Z (a.ro 0 Z)) Z<|V 1 Z<|Q ?_
   refine gl9 Z h (fun h=>?_) (fun h=>?_)
   ·exact al<|V 4 Z<|J h fun n o h=>N (bk u30 aN Z Z (a.ro 0 Z) o) Z<|N (a8 u38 Z Z (a.ro 0 Z) o Z) Z<|N (aD Z (bD u38 u119 n)) Z<|N (aj Z Z (dr _ n.toUInt64 32)) Z<|N (aj Z Z (eX _ l.toUInt64 (bB n.toUInt64 32))) Z<|a7 h fun x z h=>N (a9 (v:=v64 x) (by rw [←z]; rfl)) Z<|Q<|aH (e x _ _ ⟨Z,a⟩ h) Z
   exact gl5<|aH (e l.toUInt64 _ _ ⟨Z,a⟩ h) Z
  rintro c L w D h
  try dsimp only at D
  obtain ⟨rfl,a⟩:=D
  unfold F.FZ at h
  refine al<|V 4 Z<|da h fun p h=>N (aj Z Z (mW _ c a1 p)) Z<|N (aD Z (ca u119 u38 (aM c ((a1).toNat)))) Z<|J h fun G f h=>N (bk u30 aN Z Z (a.ro 0 Z) f) Z<|bl (bZ (t:=((aM c ((a1).toNat)).toUInt32)) aN Z Z a (i:=0) Z f Z) fun w a=>a7 h fun A q h=>?_
  rw [q]at a
  exact aE<|aF<|ak<|al<|V 2 Z<|aE<|bf (bd (y (wI (d+1),A) _ _ ⟨Z,a⟩ (aL h k)) Z)
 refine aQ<|au<|au<|have h:=aI h k;aR ?_
 cases h
 exact ib Z ⟨Z,a.d [0] Z Z⟩
theorem vT {u:World} {a0 a1:List UInt32} {ap aq:Value} {r:List UInt32×(List UInt32×Nat)}
  (h:F.Ii a0 a1=some r) (aw:RP [] u X ap a0) (y:RP [] u X aq a1):Calls Tryz.prog 129 #[ap,aq] u (Ret fun v w=>∃u0 u1:Value,v=.tuple #[u0,slV u1 X.sz 0 r.2.2]∧r.2.2≤r.2.1.length∧St [] u w [U X u0 r.1,U X u1 r.2.1]):=by
 refine aB 125 Tryz.func129 Z Z Z<|have a:=St.k u;ax [(0,ap),(1,aq)] Z ?_
 unfold F.Ii at h
 refine R<|V 2 Z<|gl2<|V 2 Z<|N (aC u30 Z (y.b a.fr)) Z<|V 1 Z<|J h fun bv ay h=>N (bk u30 aN Z Z (y.b a.fr) ay) Z<|N (a8 u38 Z Z (y.b a.fr) ay Z) Z<|J h fun l bb h=>bc a Z (ji bv bb ) Z fun w a=>V 1 Z<|gl2<|V 1 Z<|N (aC u30 Z (y.b a.fr)) Z<|J h fun a6 be h=>bG (dw (e:=X) u30 aN Z Z Z a be) Z fun f w a=>V 1 Z<|gl2<|V 3 Z<|have n:=a.pick (os':=[U X f a6]++[]) [0] (by decide) Z;J h fun b bg h=>aG Z (tw 0 a6.length l bg n.f (a.ro 0 Z).whole (y.f (W Z) n)) Z ?_
 rintro _ w ⟨rfl,p⟩
 have a:=n.g p
 refine gl2<|V 1 Z<|N (aC u30 Z (aw.b a.fr)) Z<|V 1 Z<|J h fun ba bh h=>bG (dw (e:=X) u30 aN Z Z Z a bh) Z fun g w a=>V 1 Z<|gl2<|V 3 Z<|have n:=a.pick (os':=[U X g ba]++[U X f b]) [0,1] (by decide) Z;J h fun bi aH h=>aG Z (tw 0 ba.length l aH n.f (a.ro 0 Z).whole (aw.f (W Z) n)) Z ?_
 rintro _ w ⟨rfl,p⟩
 have a:=n.g p
 refine gl2<|V 1 Z<|N (aC u30 Z (a.ro 1 Z)) Z<|V 1 Z<|gl2<|V 1 Z<|N (aC u30 Z (aw.b a.fr)) Z<|V 3 Z<|J h fun bj aJ h=>bG (dw (e:=X) u30 aN Z Z Z a aJ) Z fun c w a=>V 1 Z<|gl2<|V 2 Z<|J h fun bm aK h=>bG (dw (e:=X) u30 aN Z Z Z a aK) Z fun d w a=>V 1 Z<|gl1<|R<|V 1 Z<|N (aC u30 Z (a.ro 1 Z)) Z<|V 1 Z<|a7 h fun A aO h=>N (a9 (v:=H A) (by rw [←aO]; rfl)) Z<|Q<|ar<|ax [(6,H l),(7,f),(8,g),(9,H (b.length:Int)),(10,c),(11,d),(12,H A)] Z ?_
 refine aT (F.EL l b) (fun (s:Int×List UInt32×List UInt32×List UInt32) L w=>L=[(6,H l),(7,f),(8,g),(9,H (b.length:Int)),(10,c),(11,d),(12,H s.1)]∧St [] u w [U X f b,U X g s.2.1,U X c s.2.2.1,U X d s.2.2.2]) ?_ (A,bi,bj,bm) ⟨Z,(a.d [3,2,1,0] Z Z)⟩ h
 rintro bw ⟨j,o,m,B⟩ L w bx z aP h G
 try dsimp only at z
 obtain ⟨rfl,a⟩:=z
 unfold F.EL at h
 refine av<|R<|V 2 Z<|Q ?_
 refine gl9 Z h (fun h=>?_) (fun h=>?_)
 ·refine gl5<|av<|ar<|xh<|R<|V 6 Z<|J h fun bz S h=>N (zD u30 aN Z Z Z (a.ro 1 Z) S) Z<|V 1 Z<|J h fun aA aS h=>bc a Z (qi  aS ((a.ro 1 Z).g_sl S).rp (a.ro 0 Z).rp) Z fun w a=>V 1 Z<|gl1<|wQ<|ak<|av<|ar<|ax [(6,H l),(7,f),(8,g),(9,H (b.length:Int)),(10,c),(11,d),(12,H j),(13,v64 aA)] Z ?_
  refine aT (F.Fb b j o m) (fun (s:UInt64×List UInt32) L w=>L=[(6,H l),(7,f),(8,g),(9,H (b.length:Int)),(10,c),(11,d),(12,H j),(13,v64 s.1)]∧St [] u w [U X f b,U X g o,U X c m,U X d s.2]) ?_ (aA,B) ⟨Z,a⟩ h
  rintro bA ⟨k,bo⟩ L w bB z aU h T
  try dsimp only at z
  obtain ⟨rfl,a⟩:=z
  unfold F.Fb at h
  refine ar<|R<|V 1 Z<|gl1<|R<|V 1 Z<|N (aC u30 Z (a.ro 0 Z)) Z<|V 1 Z<|Q<|ar<|ax [(6,H l),(7,f),(8,g),(9,H (b.length:Int)),(10,c),(11,d),(12,H j),(13,v64 k),(14,v64 0),(66,f),(67,H (b.length:Int)),(68,H 0)] Z ?_
  refine aT (F.DS b j o m k) (fun (s:UInt64×Int×List UInt32) L w=>L=[(6,H l),(7,f),(8,g),(9,H (b.length:Int)),(10,c),(11,d),(12,H j),(13,v64 k),(14,v64 s.1),(66,f),(67,H (b.length:Int)),(68,H s.2.1)]∧St [] u w [U X f b,U X g o,U X c m,U X d s.2.2]) ?_ (0,0,bo) ⟨Z,a⟩ h
  rintro bC ⟨C,bp,bE⟩ L w bF z aV h ab
  try dsimp only at z
  obtain ⟨rfl,a⟩:=z
  unfold F.DS at h
  refine R<|V 1 Z<|gl1 ?_
  refine gl9 Z h (fun h=>?_) (fun h=>?_)
  ·refine gl5<|av<|ar<|R<|V 1 Z<|J h fun D ac h=>N (bk u30 aN Z Z (a.ro 0 Z) ac) Z<|N (a8 u38 Z Z (a.ro 0 Z) ac Z) Z<|V 2 Z<|gl2<|V 3 Z<|N (aD Z (bD u38 u119 D)) Z<|N (aj Z Z (gx _ k D.toUInt64)) Z<|N (aj Z Z (bU _ C (k*D.toUInt64))) Z<|a7 h fun q aW h=>N (a9 (v:=v64 q) (by rw [←aW]; rfl)) Z<|gl2<|V 3 Z<|N (aD Z (ca u119 u38 q)) Z<|J h fun bH ad h=>N (bk u30 aN Z Z (a.ro 3 Z) ad) Z<|bl (bZ (t:=q.toUInt32) aN Z Z a (i:=3) Z ad Z) fun w a=>a7 h fun bq aY h=>?_
   rw [aY]at a
   exact Q<|al<|V 1 Z<|N (aj Z Z (cc _ q 32)) Z<|V 1 Z<|aE<|aF<|ak<|al<|V 2 Z<|aE<|bf (bd (aV (aM q 32,wI (bp+1),bq) _ _ ⟨Z,a⟩ (aL h ab)) Z)
  refine aQ<|au<|au<|have h:=aI h ab;aR<|ak<|R<|V 3 Z<|N (aD Z (ca u119 u38 C)) Z<|J h fun bI ae h=>N (bk u30 aN Z Z (a.ro 3 Z) ae) Z<|bl (bZ (t:=C.toUInt32) aN Z Z a (i:=3) Z ae Z) fun w a=>a7 h fun E aZ h=>?_
  rw [aZ]at a
  refine gl1<|R<|V 6 Z<|J h fun bJ ah h=>N (zD u30 aN Z Z Z (a.ro 1 Z) ah) Z<|V 1 Z<|J h fun bK a2 h=>bc a Z (tR  a2 ((a.ro 1 Z).g_sl ah).rp (a.ro 3 Z).rp) Z fun w a=>V 1 Z<|Q ?_
  refine gl9 Z h (fun h=>?_) (fun h=>?_)
  ·refine aQ<|au<|oK Z<|au<|have h:=aI h T;aR<|ak<|R<|V 6 Z<|J h fun bL x h=>N (zD u30 aN Z Z Z (a.ro 1 Z) x) Z<|V 1 Z<|have n:=a.pick (os':=[U X g o]++[U X f b,U X c m,U X d E]) [1,0,2,3] (by decide) Z;J h fun br a3 h=>aG Z (pa ((j:Int).toNat) ((wI ((wI (j+(b.length:Int)))+1):Int).toNat) a3 n.f ((a.ro 1 Z).part (by have:=(c7 x).1; omega) (c7 x).1.2.2) (n.giveO 2 Z)) Z ?_
   rintro _ w ⟨rfl,p⟩
   have a:=n.g p
   refine Q<|al<|V 3 Z<|N (aD Z (ca u119 u38 k)) Z<|J h fun bM am h=>N (bk u30 aN Z Z (a.ro 2 Z) am) Z<|bl (bZ (t:=k.toUInt32) aN Z Z a (i:=2) Z am Z) fun w a=>a7 h fun bs a4 h=>?_
   rw [a4]at a
   exact aE<|yW<|aF<|ak<|al<|V 3 Z<|aE<|bf (bd (aP (wI (j - 1),br.2,bs,E) _ _ ⟨Z,(a.d [1,0,2,3] Z Z)⟩ (aL h G)) Z)
  exact gl5<|al<|V 1 Z<|N (aj Z Z (eA _ k 1)) Z<|V 1 Z<|aE<|aF<|bf (bd (aU (k - 1,E) _ _ ⟨Z,a⟩ (aL h T)) Z)
 refine aQ<|au<|au<|have h:=aI h G;aR<|ak<|R<|V 2 Z<|have n:=a.pick (os':=[U X g o]++[U X f b,U X c m,U X d B]) [1,0,2,3] (by decide) Z;J h fun bt a5 h=>aG Z (o7 l a5 n.f ) Z ?_
 rintro _ w ⟨rfl,p⟩
 have a:=n.g p
 refine gl1<|aX (fun w'=>St [] u w' [U X g bt,U X f b,U X c m,U X d B]) (fun _=>true) bR (fun _ _ _ hf=>hf.2) (fun _ _ hf=>hf) (by kernel_rfl)<|have a:=a.drew;show lxE _ _ _ _ _ _ _ [0,1,2,3,4,5] _ _ from an 3 Z a<|da h fun ao h=>ai a Z Z (fun w hF=>jy u30 aN Z Z (hF.ro 0 Z) (iB ao)) Z<|an 2 Z a<|bn a<|ak<|az ?_
 cases h
 exact cf Z Z Z ⟨c,g,Z,ao.2,a.d [2,0] Z Z⟩
theorem mX {f:World} {a0 a1:List UInt32} {g j:Value} {r:List UInt32×List UInt32×Int}
  (h:F.GE a0 a1=some r) (d:RP [] f X g a0) (b:RP [] f X j a1):Calls Tryz.prog 67 #[g,j] f (Ret fun v w=>∃u0 u1:Value,v=.tuple #[u0,u1,H r.2.2]∧St [] f w [U X u0 r.1,U X u1 r.2.1]):=by
 refine aB 55 Tryz.func67 Z Z Z<|have a:=St.k f;ax [(0,g),(1,j)] Z ?_
 unfold F.GE at h
 refine R<|V 3 Z<|gl2<|V 1 Z<|J h fun aj C h=>dJ a Z (dA  C (d.b a.fr).rp) Z fun e w a=>V 1 Z<|J h fun al D h=>dJ a Z (dA  D (b.b a.fr).rp) Z fun c w a=>V 2 Z<|gl1<|ar<|R<|V 1 Z<|N (aC u30 Z ((b.tk3 c).b a.fr)) Z<|V 2 Z<|Q ?_
 refine gl9 Z h (fun h=>?_) (fun h=>?_)
 ·refine R<|V 3 Z<|Q<|az<|bA<|aW ?_
  cases h
  exact n6 Z Z Z Z ⟨.slice none 0 0,.slice none 0 0,Z,((a.nil X).nil X).d [1,0] Z Z⟩
 refine R<|V 2 Z<|J h fun am E h=>bc a Z (gX  E (d.b a.fr).rp (b.b a.fr).rp) Z fun w a=>V 2 Z<|Q ?_
 refine gl9 Z h (fun h=>?_) (fun h=>?_)
 ·refine R<|V 1 Z<|J h fun an G h=>bG (v9 u31 u30 aN Z Z Z a ((d.tk3 e).b a.fr) G) Z fun ad w a=>V 3 Z<|Q<|az<|bA<|aW ?_
  cases h
  exact n6 Z Z Z Z ⟨.slice none 0 0,ad,Z,(a.nil X).d [0,1] Z Z⟩
 refine R<|V 1 Z<|N (aC u30 Z ((b.tk3 c).b a.fr)) Z<|V 2 Z<|Q ?_
 refine gl9 Z h (fun h=>?_) (fun h=>?_)
 ·refine R<|V 2 Z<|J h fun ae k h=>N (bk u30 aN Z Z ((b.tk3 c).b a.fr) k) Z<|N (a8 u38 Z Z ((b.tk3 c).b a.fr) k Z) Z<|J h fun l p h=>eW a Z (tQ ae p ((d.tk3 e).b a.fr).rp) Z fun L w a=>V 5 Z<|gl2<|V 1 Z<|J h fun m q h=>dJ a Z (dW  q (a.ro 0 Z).rp) Z fun s w a=>V 1 Z<|N (aD Z (bD u38 u119 l.2)) Z<|J h fun ai t h=>aU a Z (qw l.2.toUInt64 t ) Z fun S w a=>V 3 Z<|Q<|az<|bA<|aW ?_
  cases h
  replace a:=a.trunc3 (i:=1) rfl s
  exact n6 Z Z Z Z ⟨slV3 L X.sz 0 m m,S,Z,a.d [1,0] Z Z⟩
 refine cd<|aF<|ak<|R<|V 2 Z<|J h fun T u h=>aG Z (vT  u ((d.tk3 e).b a.fr).rp ((b.tk3 c).b a.fr).rp) Z ?_
 rintro _ w ⟨ab,ac,rfl,x,ah⟩
 have a:=a.e ah
 refine V 5 Z<|gl2<|V 1 Z<|J h fun n y h=>dJ a Z (dW  y (a.ro 0 Z).rp) Z fun z w a=>V 1 Z ?_
 replace a:=a.trunc (i:=1) rfl x
 refine J h fun o A h=>dJ a Z (dW  A (a.ro 1 Z).rp) Z fun B w a=>V 3 Z<|Q<|az ?_
 cases h
 replace a:=a.trunc3 (i:=0) rfl z
 replace a:=a.trunc3 (i:=1) rfl B
 exact n6 Z Z Z Z ⟨slV3 ab X.sz 0 n n,slV3 (slV ac X.sz 0 T.2.2) X.sz 0 o o,Z,a.d [0,1] Z Z⟩
theorem ke {i:World} {a0:List UInt32} {d:Value} (a1:Int) {r:Bool}
  (h:F.El a0 a1=some r) (e:RP [] i X d a0):Calls Tryz.prog 54 #[d,H a1] i (Ret fun v w=>v=K r∧St [] i w []):=by
 refine aB 26 Tryz.func54 Z Z Z<|have c:=St.k i;ax [(0,d),(1,H a1)] Z ?_
 unfold F.El at h
 refine R<|V 1 Z<|gl2<|V 3 Z ?_
 cases a:(decide ((0:Int)≤a1))
 case true=>
  have h:=cH h a
  try simp only [a]
  refine V 1 Z<|bE (t:=7) Z Z (aj Z Z (dV _ a1 32 (by decide))) Z<|V 1 Z<|bE (t:=7) Z Z (aC u31 Z (e.b c.fr)) Z<|V 3 Z ?_
  cases b:(decide ((wI (Int.tdiv a1 32))<(a0.length:Int)))
  case true=>
   have h:=cH h b
   try simp only [b]
   refine V 2 Z<|bE (t:=14) Z Z (aj Z Z (dV _ a1 32 (by decide))) Z<|J h fun f g h=>bE (t:=14) Z Z (bk u31 aN Z Z (e.b c.fr) g) Z<|bE (t:=14) Z Z (a8 u38 Z Z (e.b c.fr) g Z) Z<|V 1 Z<|bE (t:=14) Z Z (aj Z Z (fW _ a1 32 (by decide))) Z<|da h fun j h=>bE (t:=14) Z Z (aj Z Z (q8 _ f (Int.tmod a1 32) j)) Z<|bE (t:=14) Z Z (aj Z Z (eB _ (bu f (((Int.tmod a1 32)).toNat)) 1)) Z<|bE (t:=14) Z Z (aj Z Z (jF _ ((bu f (((Int.tmod a1 32)).toNat)) &&& 1) 1)) Z<|V 2 Z<|Q<|az ?_
   cases h
   exact ay Z Z ⟨Z,c⟩
  case false=>
   have h:=cI h b
   try simp only [b]
   refine V 12 Z<|Q<|az ?_
   cases h
   exact ay Z Z ⟨Z,c⟩
 case false=>
  have h:=cI h a
  try simp only [a]
  refine V 19 Z<|Q<|az ?_
  cases h
  exact ay Z Z ⟨Z,c⟩
theorem kf {f:World} {a0:List UInt32} {d:Value} (a1:Int) {r:List UInt32}
  (h:F.DZ a0 a1=some r) (c:RP [] f X d a0):Calls Tryz.prog 113 #[d,H a1] f (Ret fun v w=>St [] f w [U X v r]):=by
 refine aB 27 Tryz.func113 Z Z Z<|have a:=St.k f;ax [(0,d),(1,H a1)] Z ?_
 unfold F.DZ at h
 refine R<|V 1 Z<|gl2<|V 1 Z<|J h fun s g h=>dJ a Z (dA  g (c.b a.fr).rp) Z fun b w a=>V 1 Z<|gl2<|V 1 Z<|N (kR Z Z) Z<|V 1 Z<|gl1<|R<|V 1 Z<|N (aj Z Z (dV _ (max a1 0) 32 (by decide))) Z<|V 1 Z<|N (aC u30 Z ((c.tk3 b).b a.fr)) Z<|V 1 Z<|Q ?_
 refine gl9 Z h (fun h=>?_) (fun h=>?_)
 ·refine R<|V 1 Z<|gl8 ?_
  cases h
  exact ay Z Z ((a.nil X).d [0] Z Z)
 refine gl6<|V 2 Z<|N (aj Z Z (dV _ (max a1 0) 32 (by decide))) Z<|J h fun t e h=>N (o5 u30 aN Z Z ((c.tk3 b).b a.fr) e) Z<|J h fun n j h=>bG (jb u30 aN Z Z Z a (((c.tk3 b).g_sll e).b a.fr) j) Z fun o w a=>V 1 Z<|gl2<|V 2 Z<|N (aj Z Z (fW _ (max a1 0) 32 (by decide))) Z<|have p:=a.pick (os':=[U X o n]++[]) [0] (by decide) Z;J h fun u k h=>aG Z (o7 (Int.tmod (max a1 0) 32) k p.f ) Z ?_
 rintro _ w ⟨rfl,q⟩
 have a:=p.g q
 refine gl2<|V 1 Z<|J h fun x l h=>dJ a Z (dW  l (a.ro 0 Z).rp) Z fun m w a=>V 1 Z<|Q<|az ?_
 cases h
 replace a:=a.trunc3 (i:=0) rfl m
 exact ay Z Z (a.d [0] Z Z)
theorem qL {k:World} {a0 a1:List UInt32} {u x:Value} {r:List UInt32}
  (h:F.F4 a0 a1=some r) (A:RP [] k X u a0) (B:RP [] k X x a1):Calls Tryz.prog 133 #[u,x] k (Ret fun v w=>St [] k w [U X v r]):=by
 refine aB 64 Tryz.func133 Z Z Z<|have a:=St.k k;ax [(0,u),(1,x)] Z ?_
 unfold F.F4 at h
 refine R<|V 1 Z<|gl2<|V 1 Z<|J h fun l aG h=>dJ a Z (dA  aG (A.b a.fr).rp) Z fun y w a=>V 1 Z<|J h fun m aJ h=>dJ a Z (dA  aJ (B.b a.fr).rp) Z fun z w a=>V 2 Z<|Q ?_
 refine aZ (r:=r) (fun (g:List UInt32×List UInt32) L w=>∃(b:Value) (c:Value),L=[(5,b),(6,c)]∧RP [] k X b g.1∧RP [] k X c g.2∧St [] k w []) (F.G4) ?_ ?_
 rotate_left
 ·intro C
  refine R<|V 1 Z<|N (aC u30 Z ((A.tk3 y).b a.fr)) Z<|V 1 Z<|N (aC u30 Z ((B.tk3 z).b a.fr)) Z<|V 1 Z<|Q ?_
  refine gl9 Z h (fun h=>?_) (fun h=>?_)
  ·exact al<|V 4 Z<|Q<|aH (C (a1.take m,a0.take l) _ _ ⟨slV3 x X.sz 0 m m,slV3 u X.sz 0 l l,Z,(B.tk3 z),(A.tk3 y),a⟩ h) Z
  exact gl5<|aH (C (a0.take l,a1.take m) _ _ ⟨slV3 u X.sz 0 l l,slV3 x X.sz 0 m m,Z,(A.tk3 y),(B.tk3 z),a⟩ h) Z
 rintro ⟨D,aS⟩ L w hJ h
 try dsimp only at hJ
 obtain ⟨b,c,rfl,d,n,a⟩:=hJ
 unfold F.G4 at h
 refine R<|V 1 Z<|N (aC u30 Z (d.b a.fr)) Z<|V 1 Z<|J h fun aK am h=>bG (dw (e:=X) u30 aN Z Z Z a am) Z fun f w a=>V 1 Z<|gl2<|V 1 Z<|gl1<|R<|V 1 Z<|N (aC u30 Z (d.b a.fr)) Z<|V 1 Z<|Q<|ar<|ax [(5,b),(6,c),(7,f),(8,v64 0),(26,b),(27,H (D.length:Int)),(28,H 0)] Z ?_
 refine aT (F.EJ D aS) (fun (s:UInt64×Int×List UInt32) L w=>L=[(5,b),(6,c),(7,f),(8,v64 s.1),(26,b),(27,H (D.length:Int)),(28,H s.2.1)]∧St [] k w [U X f s.2.2]) ?_ (0,0,aK) ⟨Z,a⟩ h
 rintro aV ⟨j,o,ae⟩ L w aO hI an h E
 try dsimp only at hI
 obtain ⟨rfl,a⟩:=hI
 unfold F.EJ at h
 refine R<|V 1 Z<|gl1 ?_
 refine gl9 Z h (fun h=>?_) (fun h=>?_)
 ·refine gl5<|av<|ar<|R<|V 1 Z<|J h fun p G h=>N (bk u30 aN Z Z (d.b a.fr) G) Z<|N (a8 u38 Z Z (d.b a.fr) G Z) Z<|V 2 Z<|gl2<|V 2 Z<|N (aD Z (bD u38 u119 p)) Z<|N (aj Z Z (bU _ j p.toUInt64)) Z<|V 1 Z<|Q ?_
  refine aZ (r:=aO) (fun (g:UInt64) L w=>L=[(5,b),(6,c),(7,f),(8,v64 g),(9,H o),(26,b),(27,H (D.length:Int)),(28,H o)]∧St [] k w [U X f ae]) (F.Ha o ae) ?_ ?_
  rotate_left
  ·intro S
   refine R<|V 2 Z<|N (aC u30 Z (n.b a.fr)) Z<|V 1 Z<|Q ?_
   refine gl9 Z h (fun h=>?_) (fun h=>?_)
   ·exact al<|V 3 Z<|J h fun ah T h=>N (bk u30 aN Z Z (n.b a.fr) T) Z<|N (a8 u38 Z Z (n.b a.fr) T Z) Z<|N (aD Z (bD u38 u119 ah)) Z<|N (aj Z Z (bU _ (j+p.toUInt64) ah.toUInt64)) Z<|a7 h fun ai ao h=>N (a9 (v:=v64 ai) (by rw [←ao]; rfl)) Z<|Q<|aH (S ai _ _ ⟨Z,a⟩ h) Z
   exact gl5<|aH (S (j+p.toUInt64) _ _ ⟨Z,a⟩ h) Z
  rintro q L w hJ h
  try dsimp only at hJ
  obtain ⟨rfl,a⟩:=hJ
  unfold F.Ha at h
  refine R<|V 3 Z<|N (aD Z (ca u119 u38 q)) Z<|J h fun aW ab h=>N (bk u30 aN Z Z (a.ro 0 Z) ab) Z<|bl (bZ (t:=q.toUInt32) aN Z Z a (i:=0) Z ab Z) fun w a=>a7 h fun aP ap h=>?_
  rw [ap]at a
  exact Q<|al<|V 1 Z<|N (aj Z Z (cc _ q 32)) Z<|V 1 Z<|aE<|aF<|ak<|al<|V 2 Z<|aE<|bf (bd (an (aM q 32,wI (o+1),aP) _ _ ⟨Z,a⟩ (aL h E)) Z)
 refine aQ<|au<|au<|have h:=aI h E;aR<|ak<|R<|V 2 Z<|N (aC u30 Z (d.b a.fr)) Z<|V 1 Z<|N (aD Z (ca u119 u38 j)) Z<|J h fun aX ac h=>N (bk u30 aN Z Z (a.ro 0 Z) ac) Z<|bl (bZ (t:=j.toUInt32) aN Z Z a (i:=0) Z ac Z) fun w a=>a7 h fun aY aq h=>?_
 rw [aq]at a
 refine gl2<|V 1 Z<|J h fun a2 aw h=>dJ a Z (dW  aw (a.ro 0 Z).rp) Z fun aA w a=>V 1 Z<|Q<|az ?_
 cases h
 replace a:=a.trunc3 (i:=0) rfl aA
 exact ay Z Z (a.d [0] Z Z)
theorem kz {c:World} {a0 a1:List UInt32} {d f:Value} {r:List UInt32×Bool}
  (h:F.D8 a0 a1=some r) (b:RP [] c X d a0) (g:RP [] c X f a1):Calls Tryz.prog 115 #[d,f] c (Ret fun v w=>∃u0:Value,v=.tuple #[u0,K r.2]∧St [] c w [U X u0 r.1]):=by
 refine aB 28 Tryz.func115 Z Z Z<|have a:=St.k c;ax [(0,d),(1,f)] Z ?_
 unfold F.D8 at h
 refine R<|V 2 Z<|gl1<|R<|V 2 Z<|J h fun C q h=>bc a Z (gX  q (b.b a.fr).rp (g.b a.fr).rp) Z fun w a=>V 1 Z<|Q ?_
 refine gl9 Z h (fun h=>?_) (fun h=>?_)
 ·refine R<|V 2 Z<|gl8 ?_
  cases h
  exact cf Z Z Z ⟨.slice none 0 0,Z,(a.nil X).d [0] Z Z⟩
 refine gl6<|V 1 Z<|J h fun D s h=>dJ a Z (dA  s (b.b a.fr).rp) Z fun j w a=>V 1 Z<|J h fun E t h=>dJ a Z (dA  t (g.b a.fr).rp) Z fun u w a=>V 2 Z<|gl2<|V 1 Z<|N (aC u30 Z ((b.tk3 j).b a.fr)) Z<|J h fun G x h=>bG (dw (e:=X) u30 aN Z Z Z a x) Z fun o w a=>V 1 Z<|gl2<|V 2 Z<|bG (tJ (e:=X) u30 aN Z Z Z a (i:=0) Z ((b.tk3 j).b a.fr)) Z ?_
 rintro v_q w ⟨hv_q,a⟩
 subst v_q
 obtain ⟨p,y,h⟩:=fN h
 rw [y]at a
 refine gl2<|V 2 Z<|have z:=a.pick (os':=[U X o p]++[]) [0] (by decide) Z;J h fun B l h=>aG Z (pa 0 p.length l z.f (a.ro 0 Z).whole ((g.tk3 u).f (W Z) z)) Z ?_
 rintro _ w ⟨rfl,A⟩
 have a:=z.g A
 refine gl2<|V 1 Z<|J h fun k m h=>dJ a Z (dW  m (a.ro 0 Z).rp) Z fun n w a=>V 2 Z<|Q<|az ?_
 cases h
 replace a:=a.trunc3 (i:=0) rfl n
 exact cf Z Z Z ⟨slV3 o X.sz 0 k k,Z,a.d [0] Z Z⟩
end Go.Proofs
