import Derived.Test.YtahgjafdhjbkeaaGreatDoorRW0
import Derived.Test.YtahgjafdhjbkeaaGreatDoorGkFman
import Derived.Test.YtahgjafdhjbkeaaGreatDoorRWlib
set_option linter.unusedVariables false
set_option linter.unusedSimpArgs false
set_option linter.unusedSectionVars false
set_option maxRecDepth 4000
namespace Go.Proofs
open Go Go.RowKit Go.Gk
open Go.Gk renaming aa -> V, af -> J, ag -> N, ai -> H, e32 -> X, gl3 -> P, gl4 -> R, own -> U, vB -> K, vI -> I
open Nat renaming le_of_ble_eq_true -> W
theorem eb {k:World} {a0:L0} {d:Value} {r:Nat}
  (h:F.DN a0=some r) (a:RP [] k X d a0):Calls Tryz.prog 49 #[d] k (Ret fun v w=>v=slV3 d X.sz 0 r r/\r<=a0.length/\St [] k w []):=by
 refine aB 26 Tryz.func49 Z Z Z<|have b:=St.k k;ax [(0,d)] Z ?_
 unfold F.DN at h
 refine R<|V 1 Z<|gl1<|aq<|j8 [(0,slV d X.sz 0 a0.length)] ⟨(congrArg some a.1.full),trivial⟩ ?_
 refine aT (F.HA a0) (fun (s:Nat) L w=>L=[(0,slV d X.sz 0 s)]/\s<=a0.length/\St [] k w []) ?_ a0.length ⟨Z,(Nat.le_refl _),b⟩ h
 rintro y f L w q u p h l
 try dsimp only at u
 obtain⟨rfl,c,b⟩:=u
 unfold F.HA at h
 refine aw ?_
 refine a8 (r:=q) (fun (g:Bool) L w=>L=[(0,slV d X.sz 0 f),(14,K g)]/\St [] k w []) (F.EF a0 f) ?_ ?_
 rotate_left
 ·intro m
  refine al<|V 1 Z<|N (aC u30 Z ((a.b b.fr).tk c)) Z<|V 2 Z ?_
  cases e:(decide ((0:Int)<((a0.take f).length:Int)))
  case true=>
   have h:=cz h e
   try simp only[e]
   exact V 2 Z<|bB (t:=6) Z Z (aC u30 Z ((a.b b.fr).tk c)) Z<|V 1 Z<|J h fun o n h=>bB (t:=6) Z Z (jl u30 aN Z Z (a.b b.fr) c n) Z<|bB (t:=6) Z Z (a9 u38 Z Z (a.b b.fr) (jp n) Z) Z<|bB (t:=6) Z Z (aj Z Z (k7 _ o 0)) Z<|V 1 Z<|P<|aG (m (o == 0) _ _ ⟨Z,b⟩ h) Z
  case false=>
   have h:=cA h e
   try simp only[e]
   exact V 8 Z<|P<|aG (m false _ _ ⟨Z,b⟩ h) Z
 rintro z L w x h
 try dsimp only at x
 obtain⟨rfl,b⟩:=x
 unfold F.EF at h
 apply gl9 Z h<;>intro h
 ·exact gl5<|aq<|al<|V 2 Z<|N (aC u30 Z ((a.b b.fr).tk c)) Z<|V 1 Z<|c7 h fun i h=>N (mn u30 aN Z Z (a.b b.fr) (gu i)) Z<|V 1 Z<|aE<|aF<|bd (bc (p ((wI (((a0.take f).length:Int) - 1):Int).toNat) _ _ ⟨Z,i.2,b⟩ (aK h l)) Z)
 refine aQ<|av<|av<|have h:=aI h l;aR<|ak<|R<|V 2 Z<|N (aC u30 Z ((a.b b.fr).tk c)) Z<|V 1 Z<|N (aC u30 Z ((a.b b.fr).tk c)) Z<|c7 h fun j h=>N (ym u30 aN Z Z Z ((a.b b.fr).tk c) j) Z<|V 1 Z<|P<|ay ?_
 cases h
 exact az Z Z ⟨(a.1.cut3 _ _),(Nat.le_trans j.2.1 (uC _ _)),b⟩
theorem kF {m:World} {a0:L1} {c:Value} {r:L0}
  (h:F.GO a0=some r) (f:RP [] m e8 c a0):Calls Tryz.prog 18 #[c] m (Ret fun v w=>St [] m w [U X v r]):=by
 refine aB 40 Tryz.func18 Z Z Z<|have a:=St.k m;ax [(0,c)] Z ?_
 unfold F.GO at h
 refine R<|V 1 Z<|gl2<|V 1 Z<|N (aC u24 Z (f.b a.fr)) Z<|V 1 Z<|N (aj Z Z (dW _ (wI ((a0.length:Int)+3)) 4 (by decide))) Z<|J h fun E A h=>bC (c9 (e:=X) u30 aN Z Z Z a A) Z fun g w a=>V 1 Z<|gl1<|R<|V 1 Z<|N (aC u24 Z (f.b a.fr)) Z<|V 1 Z<|P<|aq<|ax [(0,c),(3,g),(12,c),(13,I (a0.length:Int)),(14,I 0)] Z ?_
 refine aT (F.Gz a0) (fun (s:Int×L0) L w=>L=[(0,c),(3,g),(12,c),(13,I (a0.length:Int)),(14,I s.1)]/\St [] m w [U X g s.2]) ?_ (0,E) ⟨Z,a⟩ h
 rintro ab ⟨G,S⟩ L w ae T B h n
 try dsimp only at T
 obtain⟨rfl,a⟩:=T
 unfold F.Gz at h
 refine R<|V 1 Z<|gl1 ?_
 apply gl9 Z h<;>intro h
 ·refine gl5<|aw<|aq<|R<|V 1 Z<|J h fun j o h=>N (bk u24 ti5 Z Z (f.b a.fr) o) Z<|N (a9 Tryz.underlying5 Z Z (f.b a.fr) o Z) Z<|V 2 Z<|gl2<|V 1 Z<|N (aC u24 Z (f.b a.fr)) Z<|V 3 Z<|aZ h fun b q h=>N (ba (v:=I b) (by rw[<-q]; rfl)) Z<|P<|dk (fun w'=>St [] m w' [U X g S]) (fun i=>!([13].contains i)) bQ (fun _ _ _ C=>C.2) (fun _ _ C=>C) (by kernel_rfl)<|have a:=a.drew;show lxE _ _ _ _ _ _ _ [0,1,2,3,4,5,6,7,8,9,10,11,12,13] _ _ from ao 2 Z a<|H a Z Z (fun w d=>aj Z Z (dW _ b 4 (by decide))) Z<|J h fun p k h=>H a Z Z (fun w d=>bk u30 aN Z Z (d.ro 0 Z) k) Z<|H a Z Z (fun w d=>a9 u38 Z Z (d.ro 0 Z) k Z) Z<|ao 1 Z a<|H a Z Z (fun w d=>aD Z (fv Tryz.underlying5 u38 j)) Z<|ao 1 Z a<|H a Z Z (fun w d=>aj Z Z (fO _ b 4 (by decide))) Z<|H a Z Z (fun w d=>aj Z Z (el _ 8 (Int.tmod b 4))) Z<|c7 h fun u h=>H a Z Z (fun w d=>aj Z Z (rk _ j.toUInt32 (wI (8*(Int.tmod b 4))) u)) Z<|H a Z Z (fun w d=>aj Z Z (eB _ p (bP j.toUInt32 (((wI (8*(Int.tmod b 4)))).toNat)))) Z ?_
  refine J h fun ac l h=>H a Z Z (fun w d=>bk u30 aN Z Z (d.ro 0 Z) l) Z<|f9 a Z Z (bX (t:=(p ||| (bP j.toUInt32 (((wI (8*(Int.tmod b 4)))).toNat)))) aN Z Z a (i:=0) Z l Z) fun w a=>aZ h fun D x h=>?_
  rw[x]at a
  exact bp trivial<|aF<|ak<|al<|V 2 Z<|aE<|bd (bc (B (wI (G+1),D) _ _ ⟨Z,a⟩ (aK h n)) Z)
 refine aQ<|av<|av<|have h:=aI h n;aR<|ak<|R<|V 1 Z<|J h fun ad y h=>dQ a Z (eb  y (a.ro 0 Z).rp) Z fun z w a=>V 1 Z<|P<|ay ?_
 cases h
 replace a:=a.trunc3 (i:=0) rfl z
 exact az Z Z (a.d [0] Z Z)
theorem dE {b:World} {a0:L0} {a:Value} {r:Nat}
  (h:F.DC a0=some r) (f:RP [] b X a a0):Calls Tryz.prog 110 #[a] b (Ret fun v w=>v=slV3 a X.sz 0 r r/\r<=a0.length/\St [] b w []):=by
 refine aB 5 Tryz.func110 Z Z Z<|have c:=St.k b;ax [(0,a)] Z ?_
 unfold F.DC at h
 refine R<|V 1 Z<|gl2<|V 1 Z<|J h fun g d h=>dQ c Z (eb  d (f.b c.fr).rp) Z fun e w c=>V 1 Z<|P<|ay ?_
 cases h
 exact az Z Z ⟨Z,e,c⟩
theorem gx {f:World} {a0:L0} {d:Value} {r:Int}
  (h:F.D8 a0=some r) (c:RP [] f X d a0):Calls Tryz.prog 50 #[d] f (Ret fun v w=>v=I r/\St [] f w []):=by
 refine aB 21 Tryz.func50 Z Z Z<|have a:=St.k f;ax [(0,d)] Z ?_
 unfold F.D8 at h
 refine R<|V 1 Z<|gl2<|V 1 Z<|J h fun j g h=>dQ a Z (dE  g (c.b a.fr).rp) Z fun b w a=>V 1 Z<|gl1<|R<|V 1 Z<|N (aC u30 Z ((c.tk3 b).b a.fr)) Z<|V 1 Z<|P ?_
 apply gl9 Z h<;>intro h
 ·refine R<|V 1 Z<|gl8 ?_
  cases h
  exact az Z Z ⟨Z,a⟩
 refine gl6<|V 1 Z<|N (aC u30 Z ((c.tk3 b).b a.fr)) Z<|V 1 Z<|N (aj Z Z (el _ 32 (wI (((a0.take j).length:Int) - 1)))) Z<|V 2 Z<|N (aC u30 Z ((c.tk3 b).b a.fr)) Z<|V 1 Z<|J h fun k e h=>N (bk u30 aN Z Z ((c.tk3 b).b a.fr) e) Z<|N (a9 u38 Z Z ((c.tk3 b).b a.fr) e Z) Z<|J h fun l i h=>bf a Z (jC k i ) Z fun w a=>V 2 Z<|P<|ay ?_
 cases h
 exact az Z Z ⟨Z,a⟩
theorem ic {i:World} {a0 a1:L0} {j k:Value} {r:Int}
  (h:F.D4 a0 a1=some r) (e:RP [] i X j a0) (f:RP [] i X k a1):Calls Tryz.prog 51 #[j,k] i (Ret fun v w=>v=I r/\St [] i w []):=by
 refine aB 51 Tryz.func51 Z Z Z<|have a:=St.k i;ax [(0,j),(1,k)] Z ?_
 unfold F.D4 at h
 refine R<|V 1 Z<|gl2<|V 1 Z<|J h fun l x h=>dQ a Z (dE  x (e.b a.fr).rp) Z fun c w a=>V 1 Z<|J h fun m y h=>dQ a Z (dE  y (f.b a.fr).rp) Z fun d w a=>V 2 Z<|gl1<|aq<|R<|V 1 Z<|N (aC u30 Z ((e.tk3 c).b a.fr)) Z<|V 1 Z<|N (aC u30 Z ((f.tk3 d).b a.fr)) Z<|V 2 Z<|P ?_
 apply gl9 Z h<;>intro h
 ·refine R<|V 1 Z<|P<|ay<|bu<|aU ?_
  cases h
  exact az Z Z ⟨Z,a⟩
 refine R<|V 1 Z<|N (aC u30 Z ((e.tk3 c).b a.fr)) Z<|V 1 Z<|N (aC u30 Z ((f.tk3 d).b a.fr)) Z<|V 2 Z<|P ?_
 apply gl9 Z h<;>intro h
 ·refine R<|V 1 Z<|P<|ay<|bu<|aU ?_
  cases h
  exact az Z Z ⟨Z,a⟩
 refine cd<|aF<|ak<|aw<|R<|V 1 Z<|N (aC u30 Z ((e.tk3 c).b a.fr)) Z<|V 1 Z<|aZ h fun u z h=>N (ba (v:=I u) (by rw[<-z]; rfl)) Z<|P<|aq<|ax [(5,slV3 j X.sz 0 l l),(6,slV3 k X.sz 0 m m),(7,I u)] Z ?_
 refine aT (F.Fn a0 a1 l m) (fun (s:Int) L w=>L=[(5,slV3 j X.sz 0 l l),(6,slV3 k X.sz 0 m m),(7,I s)]/\St [] i w []) ?_ u ⟨Z,a⟩ h
 rintro T G L w ab S A h g
 try dsimp only at S
 obtain⟨rfl,a⟩:=S
 unfold F.Fn at h
 refine aw<|R<|V 2 Z<|P ?_
 apply gl9 Z h<;>intro h
 ·refine gl5<|aw<|aq<|aq<|aw<|aX (fun w'=>St [] i w' []) (fun _=>true) bQ (fun _ _ _ n=>n.2) (fun _ _ n=>n) (by kernel_rfl)<|have a:=a.drew;show lxE _ _ _ _ _ _ _ [0,1,2,3,4,5,6,7,8,9] _ _ from ao 2 Z a<|J h fun B o h=>H a Z Z (fun w b=>bk u30 aN Z Z ((e.tk3 c).b b.fr) o) Z<|H a Z Z (fun w b=>a9 u38 Z Z ((e.tk3 c).b b.fr) o Z) Z<|ao 2 Z a<|J h fun C p h=>H a Z Z (fun w b=>bk u30 aN Z Z ((f.tk3 d).b b.fr) p) Z<|H a Z Z (fun w b=>a9 u38 Z Z ((f.tk3 d).b b.fr) p Z) Z<|H a Z Z (fun w b=>aj Z Z (qG _ B C)) Z<|ao 1 Z a<|bp a<|ak ?_
  apply gl9 Z h<;>intro h
  ·refine R<|V 1 Z<|P<|ay<|bu<|bu<|aU<|aU<|have h:=aI h g;bu<|aU ?_
   cases h
   exact az Z Z ⟨Z,a⟩
  refine aw<|aX (fun w'=>St [] i w' []) (fun _=>true) bQ (fun _ _ _ n=>n.2) (fun _ _ n=>n) (by kernel_rfl)<|have a:=a.drew;show lxE _ _ _ _ _ _ _ [0,1,2,3,4,5,6,7,8,9] _ _ from ao 2 Z a<|J h fun D q h=>H a Z Z (fun w b=>bk u30 aN Z Z ((e.tk3 c).b b.fr) q) Z<|H a Z Z (fun w b=>a9 u38 Z Z ((e.tk3 c).b b.fr) q Z) Z<|ao 2 Z a<|J h fun E t h=>H a Z Z (fun w b=>bk u30 aN Z Z ((f.tk3 d).b b.fr) t) Z<|H a Z Z (fun w b=>a9 u38 Z Z ((f.tk3 d).b b.fr) t Z) Z<|H a Z Z (fun w b=>aj Z Z (BC _ D E)) Z<|ao 1 Z a<|bp a<|ak ?_
  apply gl9 Z h<;>intro h
  ·refine R<|V 1 Z<|P<|ay<|bu<|bu<|aU<|aU<|have h:=aI h g;bu<|aU ?_
   cases h
   exact az Z Z ⟨Z,a⟩
  exact cd<|aF<|aF<|ak<|al<|V 3 Z<|aE<|bd (bc (A (wI (G - 1)) _ _ ⟨Z,a⟩ (aK h g)) Z)
 refine aQ<|av<|av<|have h:=aI h g;aR<|ak<|R<|V 1 Z<|P<|ay ?_
 cases h
 exact az Z Z ⟨Z,a⟩
theorem uq {j:World} {a0:L0} {b:Value} (a1:UInt32) {r:L0×UInt32}
  (h:F.Ir a0 a1=some r) (c:RP [] j X b a0):Calls Tryz.prog 127 #[b,v32 a1] j (Ret fun v w=>∃u0:Value,v=.tuple #[u0,v32 r.2]/\St [] j w [U X u0 r.1]):=by
 refine aB 34 Tryz.func127 Z Z Z<|have a:=St.k j;ax [(0,b),(1,v32 a1)] Z ?_
 unfold F.Ir at h
 refine R<|V 2 Z<|gl2<|V 1 Z<|N (aC u30 Z (c.b a.fr)) Z<|J h fun z p h=>bC (c9 (e:=X) u30 aN Z Z Z a p) Z fun d w a=>V 1 Z<|gl2<|V 1 Z<|gl1<|R<|V 1 Z<|N (aC u30 Z (c.b a.fr)) Z<|V 1 Z<|aZ h fun k q h=>N (ba (v:=I k) (by rw[<-q]; rfl)) Z<|P<|aq<|ax [(0,b),(1,v32 a1),(6,d),(7,v32 0),(8,I k)] Z ?_
 refine aT (F.FI a0 a1) (fun (s:UInt32×Int×L0) L w=>L=[(0,b),(1,v32 a1),(6,d),(7,v32 s.1),(8,I s.2.1)]/\St [] j w [U X d s.2.2]) ?_ (0,k,z) ⟨Z,a⟩ h
 rintro D ⟨A,B,S⟩ L w E C u h l
 try dsimp only at C
 obtain⟨rfl,a⟩:=C
 unfold F.FI at h
 refine aw<|R<|V 2 Z<|P ?_
 apply gl9 Z h<;>intro h
 ·refine gl5<|aw<|aq<|al<|V 5 Z<|J h fun x f h=>N (bk u30 aN Z Z (c.b a.fr) f) Z<|N (a9 u38 Z Z (c.b a.fr) f Z) Z<|V 1 Z<|J h fun m n h=>bf a Z (oA A x a1 n ) Z fun w a=>V 3 Z<|J h fun G g h=>N (bk u30 aN Z Z (a.ro 0 Z) g) Z<|bo (bX (t:=m.1) aN Z Z a (i:=0) Z g Z) fun w a=>aZ h fun y o h=>?_
  rw[o]at a
  exact V 1 Z<|aE<|aF<|ak<|al<|V 3 Z<|aE<|bd (bc (u (m.2,wI (B - 1),y) _ _ ⟨Z,a⟩ (aK h l)) Z)
 refine aQ<|av<|av<|have h:=aI h l;aR<|ak<|R<|V 4 Z<|P<|ay ?_
 cases h
 exact bY Z Z Z ⟨d,Z,a.d [0] Z Z⟩
theorem qW {b:World} (a0:UInt64) {r:L0}
  (h:F.IO a0=some r) :Calls Tryz.prog 128 #[v64 a0] b (Ret fun v w=>St [] b w [U X v r]):=by
 refine aB 10 Tryz.func128 Z Z Z<|have a:=St.k b;ax [(0,v64 a0)] Z ?_
 unfold F.IO at h
 refine R<|V 1 Z<|gl2<|V 1 Z<|N (aD Z (cc u119 u38 a0)) Z<|V 1 Z<|N (aj Z Z (cf _ a0 32)) Z<|N (aD Z (cc u119 u38 (aO a0 32))) Z<|bC (cq (e:=X) (l:=([a0.toUInt32,(aO a0 32).toUInt32]:L0)) (vs:=[v32 a0.toUInt32,v32 ((aO a0 32).toUInt32)]) u30 aN Z Z Z Z (by decide) (by decide) a) Z fun f w a=>J h fun g c h=>dQ a Z (eb  c (a.ro 0 Z).rp) Z fun d w a=>V 1 Z<|P<|ay ?_
 cases h
 replace a:=a.trunc3 (i:=0) rfl d
 exact az Z Z (a.d [0] Z Z)
theorem tW {k:World} {a0 a1:L0} {j e f:Value} {S:L2} (a d:Nat) (a2:Int) {r:L0}
  (h:F.GZ a0 a d a1 a2=some r) (b:St S k k [U X j a0]) (p:mS j X.sz a d f) (q:RP S k X e a1):Calls Tryz.prog 160 #[f,e,I a2] k (Ret fun v w=>v=.tuple #[]/\St S k w [U X j r]):=by
 refine aB 37 Tryz.func160 Z Z Z<|ax [(0,f),(1,e),(2,I a2)] Z ?_
 unfold F.GZ at h
 refine R<|V 1 Z<|gl2<|V 1 Z<|N (aC u30 Z ((b.ro 0 Z).po p)) Z<|V 1 Z<|P<|aq<|ax [(0,f),(1,e),(2,I a2),(6,v32 0),(10,I (((a0.drop a).take (d - a)).length:Int)),(11,I 0)] Z ?_
 refine aT (F.Fw a d a0 a1 a2) (fun (s:UInt32×Int×L0) L w=>L=[(0,f),(1,e),(2,I a2),(6,v32 s.1),(10,I (((a0.drop a).take (d - a)).length:Int)),(11,I s.2.1)]/\St S k w [U X j s.2.2]) ?_ (0,0,a0) ⟨Z,b⟩ h
 rintro ae ⟨l,m,D⟩ L w T hI E h u
 try dsimp only at hI
 obtain⟨rfl,b⟩:=hI
 unfold F.Fw at h
 refine R<|V 1 Z<|gl1 ?_
 apply gl9 Z h<;>intro h
 ·refine gl5<|aw<|aq<|R<|V 2 Z<|gl2<|V 1 Z<|P ?_
  refine a8 (r:=T) (fun (g:UInt32) L w=>L=[(0,f),(1,e),(2,I a2),(6,v32 l),(7,I m),(8,v32 g),(10,I (((a0.drop a).take (d - a)).length:Int)),(11,I m)]/\St S k w [U X j D]) (F.HG a d a2 l m D) ?_ ?_
  rotate_left
  ·intro n
   refine R<|V 2 Z<|N (aC u30 Z (q.b b.fr)) Z<|V 1 Z<|P ?_
   apply gl9 Z h<;>intro h
   ·exact al<|V 2 Z<|J h fun ac x h=>N (bk u30 aN Z Z (q.b b.fr) x) Z<|N (a9 u38 Z Z (q.b b.fr) x Z) Z<|V 1 Z<|P<|aG (n ac _ _ ⟨Z,b⟩ h) Z
   exact gl5<|aG (n 0 _ _ ⟨Z,b⟩ h) Z
  rintro c L w hJ h
  try dsimp only at hJ
  obtain⟨rfl,b⟩:=hJ
  unfold F.HG at h
  refine R<|V 4 Z<|c7 h fun z h=>N (aj Z Z (rk _ c a2 z)) Z<|V 1 Z<|N (aj Z Z (eB _ (bP c ((a2).toNat)) l)) Z<|J h fun ah o h=>N (bk u30 aN Z Z ((b.ro 0 Z).po p) o) Z<|bo (tU (t:=((bP c ((a2).toNat)) ||| l)) aN Z Z b (i:=0) Z p o Z) fun w b=>aZ h fun G A h=>?_
  rw[A]at b
  exact P<|al<|V 1 Z<|N (aD Z (bK u38 u119 c)) Z<|V 1 Z<|c7 h fun B h=>N (aj Z Z (xQ _ c.toUInt64 a2 B)) Z<|N (aj Z Z (cf _ (bH c.toUInt64 ((a2).toNat)) 32)) Z<|N (aD Z (cc u119 u38 (aO (bH c.toUInt64 ((a2).toNat)) 32))) Z<|aZ h fun y C h=>N (ba (v:=v32 y) (by rw[<-C]; rfl)) Z<|aE<|aF<|ak<|al<|V 2 Z<|aE<|bd (bc (E (y,wI (m+1),G) _ _ ⟨Z,b⟩ (aK h u)) Z)
 refine aQ<|av<|av<|have h:=aI h u;aR ?_
 cases h
 exact ip Z ⟨Z,b.d [0] Z Z⟩
theorem qJ {j:World} {a0 a1:L0} {m n:Value} {r:UInt64}
  (h:F.Jc a0 a1=some r) (o:RP [] j X m a0) (e:RP [] j X n a1):Calls Tryz.prog 161 #[m,n] j (Ret fun v w=>v=v64 r/\St [] j w []):=by
 refine aB 75 Tryz.func161 Z Z Z<|have a:=St.k j;ax [(0,m),(1,n)] Z ?_
 unfold F.Jc at h
 refine R<|V 1 Z<|gl2<|V 1 Z<|N (aC u30 Z (e.b a.fr)) Z<|V 1 Z<|gl1<|aX (fun w'=>St [] j w' []) (fun _=>true) bQ (fun _ _ _ k=>k.2) (fun _ _ k=>k) (by kernel_rfl)<|have a:=a.drew;show lxE _ _ _ _ _ _ _ [0,1,2,3,4,5,6,7,8,9,10,11,12,13] _ _ from ao 2 Z a<|J h fun G S h=>H a Z Z (fun w c=>bk u30 aN Z Z (o.b c.fr) S) Z<|H a Z Z (fun w c=>a9 u38 Z Z (o.b c.fr) S Z) Z<|H a Z Z (fun w c=>aD Z (bK u38 u119 G)) Z<|H a Z Z (fun w c=>aj Z Z (du _ G.toUInt64 32)) Z<|ao 3 Z a<|J h fun ah T h=>H a Z Z (fun w c=>bk u30 aN Z Z (o.b c.fr) T) Z<|H a Z Z (fun w c=>a9 u38 Z Z (o.b c.fr) T Z) Z<|H a Z Z (fun w c=>aD Z (bK u38 u119 ah)) Z<|H a Z Z (fun w c=>aj Z Z (fo _ (bH G.toUInt64 32) ah.toUInt64)) Z<|aZ h fun l al h=>H a Z Z (fun w c=>ba (v:=v64 l) (by rw[<-al]; rfl)) Z<|bp a<|ak<|aw<|aX (fun w'=>St [] j w' []) (fun _=>true) bQ (fun _ _ _ k=>k.2) (fun _ _ k=>k) (by kernel_rfl)<|have a:=a.drew;show lxE _ _ _ _ _ _ _ [0,1,2,3,4,5,6,7,8,9,10,11,12,13,14,15,16,17] _ _ from ?_
 refine ao 4 Z a<|J h fun y ab h=>H a Z Z (fun w c=>bk u30 aN Z Z (e.b c.fr) ab) Z<|H a Z Z (fun w c=>a9 u38 Z Z (e.b c.fr) ab Z) Z<|H a Z Z (fun w c=>aD Z (bK u38 u119 y)) Z<|c7 h fun am h=>H a Z Z (fun w c=>aj Z Z (ii _ l y.toUInt64 am)) Z<|ao 4 Z a<|J h fun z ac h=>H a Z Z (fun w c=>bk u30 aN Z Z (e.b c.fr) ac) Z<|H a Z Z (fun w c=>a9 u38 Z Z (e.b c.fr) ac Z) Z<|H a Z Z (fun w c=>aD Z (bK u38 u119 z)) Z<|c7 h fun an h=>H a Z Z (fun w c=>aj Z Z (ft _ l z.toUInt64 an)) Z<|ao 2 Z a<|bp a<|ak ?_
 refine a8 (r:=r) (fun (g:UInt64) L w=>L=[(7,v64 g)]/\St [] j w []) (F.Jn) ?_ ?_
 rotate_left
 ·intro A
  refine aq<|ax [(0,m),(1,n),(5,I (a1.length:Int)),(7,v64 (l / y.toUInt64)),(8,v64 (l%z.toUInt64))] Z ?_
  refine aT (F.En a0 a1) (fun (s:UInt64×UInt64) L w=>L=[(0,m),(1,n),(5,I (a1.length:Int)),(7,v64 s.1),(8,v64 s.2)]/\St [] j w []) ?_ (l / y.toUInt64,l%z.toUInt64) ⟨Z,a⟩ h
  rintro au ⟨d,f⟩ L w ap hI ae h p
  try dsimp only at hI
  obtain⟨rfl,a⟩:=hI
  unfold F.En at h
  refine aw ?_
  refine a8 (r:=ap) (fun (g:Bool) L w=>L=[(0,m),(1,n),(5,I (a1.length:Int)),(7,v64 d),(8,v64 f),(61,K g)]/\St [] j w []) (F.E0 a1 d f) ?_ ?_
  rotate_left
  ·intro B
   refine aX (fun w'=>St [] j w' []) (fun _=>true) bQ (fun _ _ _ k=>k.2) (fun _ _ k=>k) (by kernel_rfl)<|have a:=a.drew;show lxE _ _ _ _ _ _ _ [0,1,2,3,4,5,6,7,8,9,10,11,12,13,14,15,16,17,18,19,20,21] _ _ from ao 1 Z a<|H a Z Z (fun w c=>aj Z Z (uU _ d 4294967296)) Z<|ao 1 Z a ?_
   cases i:(decide ((4294967296:UInt64)<=d))
   case true=>
    have h:=cz h i
    try simp only[i]
    exact dc (b:=true) (t:=42) a Z Z Z Z Z Z<|dc (b:=true) (t:=42) a Z Z Z Z Z Z<|dc (b:=true) (t:=42) a Z Z Z Z Z Z<|dc (b:=true) (t:=42) a Z Z Z Z Z Z<|dc (b:=true) (t:=42) a Z Z Z Z Z Z<|dc (b:=true) (t:=42) a Z Z Z Z Z Z<|dc (b:=true) (t:=42) a Z Z Z Z Z Z<|dc (b:=true) (t:=42) a Z Z Z Z Z Z<|dc (b:=true) (t:=42) a Z Z Z Z Z Z<|dc (b:=true) (t:=42) a Z Z Z Z Z Z<|dc (b:=true) (t:=42) a Z Z Z Z Z Z<|dc (b:=true) (t:=42) a Z Z Z Z Z Z<|dc (b:=true) (t:=42) a Z Z Z Z Z Z<|dc (b:=true) (t:=42) a Z Z Z Z Z Z<|dc (b:=true) (t:=42) a Z Z Z Z Z Z<|dc (b:=true) (t:=42) a Z Z Z Z Z Z<|dc (b:=true) (t:=42) a Z Z Z Z Z Z<|dc (b:=true) (t:=42) a Z Z Z Z Z Z<|ao 1 Z a<|bp a<|ak<|aG (B true _ _ ⟨Z,a⟩ h) Z
   case false=>
    have h:=cA h i
    try simp only[i]
    refine eA (t:=42) a Z Z Z Z (fun w c=>gY Z) Z<|eA (t:=42) a Z Z Z Z (fun w c=>gY Z) Z<|eA (t:=42) a Z Z Z Z (fun w c=>gY Z) Z<|eA (t:=42) a Z Z Z Z (fun w c=>aj Z Z (tX _ (a1.length:Int) 2)) Z<|J h fun q C h=>eA (t:=42) a Z Z Z Z (fun w c=>bk u30 aN Z Z (e.b c.fr) C) Z<|eA (t:=42) a Z Z Z Z (fun w c=>a9 u38 Z Z (e.b c.fr) C Z) Z<|eA (t:=42) a Z Z Z Z (fun w c=>aD Z (bK u38 u119 q)) Z<|eA (t:=42) a Z Z Z Z (fun w c=>aj Z Z (gD _ d q.toUInt64)) Z<|eA (t:=42) a Z Z Z Z (fun w c=>gY Z) Z<|eA (t:=42) a Z Z Z Z (fun w c=>aj Z Z (du _ f 32)) Z<|eA (t:=42) a Z Z Z Z (fun w c=>gY Z) Z<|eA (t:=42) a Z Z Z Z (fun w c=>gY Z) Z<|eA (t:=42) a Z Z Z Z (fun w c=>aj Z Z (tX _ (a1.length:Int) 2)) Z<|J h fun u D h=>eA (t:=42) a Z Z Z Z (fun w c=>bk u30 aN Z Z (o.b c.fr) D) Z<|eA (t:=42) a Z Z Z Z (fun w c=>a9 u38 Z Z (o.b c.fr) D Z) Z<|eA (t:=42) a Z Z Z Z (fun w c=>aD Z (bK u38 u119 u)) Z<|eA (t:=42) a Z Z Z Z (fun w c=>aj Z Z (fo _ (bH f 32) u.toUInt64)) Z ?_
    exact eA (t:=42) a Z Z Z Z (fun w c=>aj Z Z (jP _ (d*q.toUInt64) ((bH f 32) ||| u.toUInt64))) Z<|ao 1 Z a<|bp a<|ak<|aG (B (decide (((bH f 32) ||| u.toUInt64)<(d*q.toUInt64))) _ _ ⟨Z,a⟩ h) Z
  rintro aA L w hJ h
  try dsimp only at hJ
  obtain⟨rfl,a⟩:=hJ
  unfold F.E0 at h
  apply gl9 Z h<;>intro h
  ·refine gl5<|aq<|R<|V 1 Z<|N (aj Z Z (eN _ d 1)) Z<|V 1 Z<|gl2<|V 4 Z<|J h fun x E h=>N (bk u30 aN Z Z (e.b a.fr) E) Z<|N (a9 u38 Z Z (e.b a.fr) E Z) Z<|N (aD Z (bK u38 u119 x)) Z<|N (aj Z Z (bT _ f x.toUInt64)) Z<|V 1 Z<|gl2<|V 1 Z<|N (aj Z Z (uU _ (f+x.toUInt64) 4294967296)) Z<|P ?_
   apply gl9 Z h<;>intro h
   ·exact aQ<|oZ Z<|av<|have h:=aI h p;aR<|ak<|aG (A (d - 1) _ _ ⟨Z,a⟩ h) Z
   exact cd<|aF<|bd (bc (ae (d - 1,f+x.toUInt64) _ _ ⟨Z,a⟩ (aK h p)) Z)
  exact aQ<|av<|av<|have h:=aI h p;aR<|ak<|aG (A d _ _ ⟨Z,a⟩ h) Z
 rintro aE L w hJ h
 try dsimp only at hJ
 obtain⟨rfl,a⟩:=hJ
 unfold F.Jn at h
 refine R<|V 2 Z<|P<|ay ?_
 cases h
 exact az Z Z ⟨Z,a⟩
theorem ur {c:World} {a0 a1:L0} {d e:Value} {r:Bool}
  (h:F.FA a0 a1=some r) (f:RP [] c X d a0) (j:RP [] c X e a1):Calls Tryz.prog 162 #[d,e] c (Ret fun v w=>v=K r/\St [] c w []):=by
 refine aB 31 Tryz.func162 Z Z Z<|have a:=St.k c;ax [(0,d),(1,e)] Z ?_
 unfold F.FA at h
 refine R<|V 1 Z<|gl1<|R<|V 1 Z<|N (aC u30 Z (f.b a.fr)) Z<|V 1 Z<|aZ h fun k p h=>N (ba (v:=I k) (by rw[<-p]; rfl)) Z<|P<|aq<|ax [(0,d),(1,e),(5,I k)] Z ?_
 refine aT (F.Eg a0 a1) (fun (s:Int) L w=>L=[(0,d),(1,e),(5,I s)]/\St [] c w []) ?_ k ⟨Z,a⟩ h
 rintro B t L w C u q h g
 try dsimp only at u
 obtain⟨rfl,a⟩:=u
 unfold F.Eg at h
 refine aw<|R<|V 2 Z<|P ?_
 apply gl9 Z h<;>intro h
 ·refine gl5<|aw<|aq<|aw<|aX (fun w'=>St [] c w' []) (fun _=>true) bQ (fun _ _ _ i=>i.2) (fun _ _ i=>i) (by kernel_rfl)<|have a:=a.drew;show lxE _ _ _ _ _ _ _ [0,1,2,3,4,5,6,7,8] _ _ from ao 2 Z a<|J h fun x l h=>H a Z Z (fun w b=>bk u30 aN Z Z (f.b b.fr) l) Z<|H a Z Z (fun w b=>a9 u38 Z Z (f.b b.fr) l Z) Z<|ao 2 Z a<|J h fun y m h=>H a Z Z (fun w b=>bk u30 aN Z Z (j.b b.fr) m) Z<|H a Z Z (fun w b=>a9 u38 Z Z (j.b b.fr) m Z) Z<|H a Z Z (fun w b=>aj Z Z (jN _ x y)) Z<|bp a<|ak ?_
  apply gl9 Z h<;>intro h
  ·refine aw<|aX (fun w'=>St [] c w' []) (fun _=>true) bQ (fun _ _ _ i=>i.2) (fun _ _ i=>i) (by kernel_rfl)<|have a:=a.drew;show lxE _ _ _ _ _ _ _ [0,1,2,3,4,5,6,7,8,9] _ _ from ao 2 Z a<|J h fun z n h=>H a Z Z (fun w b=>bk u30 aN Z Z (f.b b.fr) n) Z<|H a Z Z (fun w b=>a9 u38 Z Z (f.b b.fr) n Z) Z<|ao 2 Z a<|J h fun A o h=>H a Z Z (fun w b=>bk u30 aN Z Z (j.b b.fr) o) Z<|H a Z Z (fun w b=>a9 u38 Z Z (j.b b.fr) o Z) Z<|H a Z Z (fun w b=>aj Z Z (qG _ z A)) Z<|ao 1 Z a<|bp a<|ak<|ay<|bu<|aU<|aU<|have h:=aI h g;bu<|aU ?_
   cases h
   exact az Z Z ⟨Z,a⟩
  exact cd<|aF<|ak<|al<|V 3 Z<|aE<|bd (bc (q (wI (t - 1)) _ _ ⟨Z,a⟩ (aK h g)) Z)
 refine aQ<|av<|av<|have h:=aI h g;aR<|ak<|R<|V 1 Z<|P<|ay ?_
 cases h
 exact az Z Z ⟨Z,a⟩
theorem pz {k:World} {a0 a1:L0} {f d e:Value} {S:L2} (b c:Nat) {r:UInt32×L0}
  (h:F.EC a0 b c a1=some r) (a:St S k k [U X f a0]) (j:mS f X.sz b c e) (p:RP S k X d a1):Calls Tryz.prog 152 #[e,d] k (Ret fun v w=>v=v32 r.1/\St S k w [U X f r.2]):=by
 refine aB 36 Tryz.func152 Z Z Z<|ax [(0,e),(1,d)] Z ?_
 unfold F.EC at h
 refine R<|V 1 Z<|gl2<|V 1 Z<|gl1<|R<|V 1 Z<|N (aC u30 Z ((a.ro 0 Z).po j)) Z<|V 1 Z<|P<|aq<|ax [(0,e),(1,d),(5,v32 0),(9,I (((a0.drop b).take (c - b)).length:Int)),(10,I 0)] Z ?_
 refine aT (F.FN b c a0 a1) (fun (s:UInt32×Int×L0) L w=>L=[(0,e),(1,d),(5,v32 s.1),(9,I (((a0.drop b).take (c - b)).length:Int)),(10,I s.2.1)]/\St S k w [U X f s.2.2]) ?_ (0,0,a0) ⟨Z,a⟩ h
 rintro ae ⟨q,l,B⟩ L w T hI C h u
 try dsimp only at hI
 obtain⟨rfl,a⟩:=hI
 unfold F.FN at h
 refine R<|V 1 Z<|gl1 ?_
 apply gl9 Z h<;>intro h
 ·refine gl5<|aw<|aq<|R<|V 2 Z<|gl2<|V 1 Z<|P ?_
  refine a8 (r:=T) (fun (g:UInt32) L w=>L=[(0,e),(1,d),(5,v32 q),(6,I l),(7,v32 g),(9,I (((a0.drop b).take (c - b)).length:Int)),(10,I l)]/\St S k w [U X f B]) (F.Gn b c q l B) ?_ ?_
  rotate_left
  ·intro m
   refine R<|V 2 Z<|N (aC u30 Z (p.b a.fr)) Z<|V 1 Z<|P ?_
   apply gl9 Z h<;>intro h
   ·exact al<|V 2 Z<|J h fun ac x h=>N (bk u30 aN Z Z (p.b a.fr) x) Z<|N (a9 u38 Z Z (p.b a.fr) x Z) Z<|V 1 Z<|P<|aG (m ac _ _ ⟨Z,a⟩ h) Z
   exact gl5<|aG (m 0 _ _ ⟨Z,a⟩ h) Z
  rintro D L w hJ h
  try dsimp only at hJ
  obtain⟨rfl,a⟩:=hJ
  unfold F.Gn at h
  refine al<|V 4 Z<|J h fun E n h=>N (bk u30 aN Z Z ((a.ro 0 Z).po j) n) Z<|N (a9 u38 Z Z ((a.ro 0 Z).po j) n Z) Z<|V 2 Z<|J h fun y z h=>bf a Z (oy E D q z ) Z fun w a=>V 3 Z<|J h fun ah o h=>N (bk u30 aN Z Z ((a.ro 0 Z).po j) o) Z<|bo (tU (t:=y.1) aN Z Z a (i:=0) Z j o Z) fun w a=>aZ h fun G A h=>?_
  rw[A]at a
  exact V 1 Z<|aE<|aF<|ak<|al<|V 2 Z<|aE<|bd (bc (C (y.2,wI (l+1),G) _ _ ⟨Z,a⟩ (aK h u)) Z)
 refine aQ<|av<|av<|have h:=aI h u;aR<|ak<|R<|V 2 Z<|P<|ay ?_
 cases h
 exact az Z Z ⟨Z,a.d [0] Z Z⟩
theorem pu {j:World} {a0:L0} {b:Value} {S:L2} (a1:Int) {r:L0}
  (h:F.H3 a0 a1=some r) (a:St S j j [U X b a0]):Calls Tryz.prog 151 #[b,I a1] j (Ret fun v w=>v=.tuple #[]/\St S j w [U X b r]):=by
 refine aB 38 Tryz.func151 Z Z Z<|ax [(0,b),(1,I a1)] Z ?_
 unfold F.H3 at h
 refine R<|V 1 Z<|N (aC u30 Z (a.ro 0 Z)) Z<|V 1 Z<|P<|aq<|ax [(0,b),(1,I a1),(7,I (a0.length:Int)),(8,I 0)] Z ?_
 refine aT (F.Gb a0 a1) (fun (s:Int×L0) L w=>L=[(0,b),(1,I a1),(7,I (a0.length:Int)),(8,I s.1)]/\St S j w [U X b s.2]) ?_ (0,a0) ⟨Z,a⟩ h
 rintro E ⟨d,u⟩ L w B C y h k
 try dsimp only at C
 obtain⟨rfl,a⟩:=C
 unfold F.Gb at h
 refine R<|V 1 Z<|gl1 ?_
 apply gl9 Z h<;>intro h
 ·refine gl5<|aw<|aq<|R<|V 2 Z<|gl2<|V 2 Z<|J h fun l m h=>N (bk u30 aN Z Z (a.ro 0 Z) m) Z<|N (a9 u38 Z Z (a.ro 0 Z) m Z) Z<|N (aD Z (bK u38 u119 l)) Z<|V 1 Z<|P ?_
  refine a8 (r:=B) (fun (g:UInt64) L w=>L=[(0,b),(1,I a1),(4,I d),(5,v64 g),(7,I (a0.length:Int)),(8,I d)]/\St S j w [U X b u]) (F.GB a1 d u) ?_ ?_
  rotate_left
  ·intro e
   refine R<|V 3 Z<|N (aC u30 Z (a.ro 0 Z)) Z<|V 1 Z<|P ?_
   apply gl9 Z h<;>intro h
   ·exact al<|V 4 Z<|J h fun n o h=>N (bk u30 aN Z Z (a.ro 0 Z) o) Z<|N (a9 u38 Z Z (a.ro 0 Z) o Z) Z<|N (aD Z (bK u38 u119 n)) Z<|N (aj Z Z (du _ n.toUInt64 32)) Z<|N (aj Z Z (fo _ l.toUInt64 (bH n.toUInt64 32))) Z<|aZ h fun x z h=>N (ba (v:=v64 x) (by rw[<-z]; rfl)) Z<|P<|aG (e x _ _ ⟨Z,a⟩ h) Z
   exact gl5<|aG (e l.toUInt64 _ _ ⟨Z,a⟩ h) Z
  rintro c L w D h
  try dsimp only at D
  obtain⟨rfl,a⟩:=D
  unfold F.GB at h
  refine al<|V 4 Z<|c7 h fun p h=>N (aj Z Z (nj _ c a1 p)) Z<|N (aD Z (cc u119 u38 (aO c ((a1).toNat)))) Z<|J h fun G f h=>N (bk u30 aN Z Z (a.ro 0 Z) f) Z<|bo (bX (t:=((aO c ((a1).toNat)).toUInt32)) aN Z Z a (i:=0) Z f Z) fun w a=>aZ h fun A q h=>?_
  rw[q]at a
  exact aE<|aF<|ak<|al<|V 2 Z<|aE<|bd (bc (y (wI (d+1),A) _ _ ⟨Z,a⟩ (aK h k)) Z)
 refine aQ<|av<|av<|have h:=aI h k;aR ?_
 cases h
 exact ip Z ⟨Z,a.d [0] Z Z⟩
theorem wy {u:World} {a0 a1:L0} {ap ar:Value} {r:L0×(L0×Nat)}
  (h:F.IY a0 a1=some r) (au:RP [] u X ap a0) (y:RP [] u X ar a1):Calls Tryz.prog 129 #[ap,ar] u (Ret fun v w=>∃u0 u1:Value,v=.tuple #[u0,slV u1 X.sz 0 r.2.2]/\r.2.2<=r.2.1.length/\St [] u w [U X u0 r.1,U X u1 r.2.1]):=by
 refine aB 125 Tryz.func129 Z Z Z<|have a:=St.k u;ax [(0,ap),(1,ar)] Z ?_
 unfold F.IY at h
 refine R<|V 2 Z<|gl2<|V 2 Z<|N (aC u30 Z (y.b a.fr)) Z<|V 1 Z<|J h fun bv az h=>N (bk u30 aN Z Z (y.b a.fr) az) Z<|N (a9 u38 Z Z (y.b a.fr) az Z) Z<|J h fun l bb h=>bf a Z (jt bv bb ) Z fun w a=>V 1 Z<|gl2<|V 1 Z<|N (aC u30 Z (y.b a.fr)) Z<|J h fun a7 be h=>bC (c9 (e:=X) u30 aN Z Z Z a be) Z fun f w a=>V 1 Z<|gl2<|V 3 Z<|have n:=a.pick (os':=[U X f a7]++[]) [0] (by decide) Z;J h fun b bg h=>aH Z (tW 0 a7.length l bg n.f (a.ro 0 Z).whole (y.f (W Z) n)) Z ?_
 rintro _ w ⟨rfl,p⟩
 have a:=n.g p
 refine gl2<|V 1 Z<|N (aC u30 Z (au.b a.fr)) Z<|V 1 Z<|J h fun a8 bh h=>bC (c9 (e:=X) u30 aN Z Z Z a bh) Z fun g w a=>V 1 Z<|gl2<|V 3 Z<|have n:=a.pick (os':=[U X g a8]++[U X f b]) [0,1] (by decide) Z;J h fun bi aG h=>aH Z (tW 0 a8.length l aG n.f (a.ro 0 Z).whole (au.f (W Z) n)) Z ?_
 rintro _ w ⟨rfl,p⟩
 have a:=n.g p
 refine gl2<|V 1 Z<|N (aC u30 Z (a.ro 1 Z)) Z<|V 1 Z<|gl2<|V 1 Z<|N (aC u30 Z (au.b a.fr)) Z<|V 3 Z<|J h fun bj aJ h=>bC (c9 (e:=X) u30 aN Z Z Z a aJ) Z fun c w a=>V 1 Z<|gl2<|V 2 Z<|J h fun bl aL h=>bC (c9 (e:=X) u30 aN Z Z Z a aL) Z fun d w a=>V 1 Z<|gl1<|R<|V 1 Z<|N (aC u30 Z (a.ro 1 Z)) Z<|V 1 Z<|aZ h fun A aM h=>N (ba (v:=I A) (by rw[<-aM]; rfl)) Z<|P<|aq<|ax [(6,I l),(7,f),(8,g),(9,I (b.length:Int)),(10,c),(11,d),(12,I A)] Z ?_
 refine aT (F.Fe l b) (fun (s:Int×L0×L0×L0) L w=>L=[(6,I l),(7,f),(8,g),(9,I (b.length:Int)),(10,c),(11,d),(12,I s.1)]/\St [] u w [U X f b,U X g s.2.1,U X c s.2.2.1,U X d s.2.2.2]) ?_ (A,bi,bj,bl) ⟨Z,(a.d [3,2,1,0] Z Z)⟩ h
 rintro bw ⟨j,o,m,B⟩ L w bx z aP h G
 try dsimp only at z
 obtain⟨rfl,a⟩:=z
 unfold F.Fe at h
 refine aw<|R<|V 2 Z<|P ?_
 apply gl9 Z h<;>intro h
 ·refine gl5<|aw<|aq<|xF<|R<|V 6 Z<|J h fun bz S h=>N (z7 u30 aN Z Z Z (a.ro 1 Z) S) Z<|V 1 Z<|J h fun aA aS h=>bf a Z (qJ  aS ((a.ro 1 Z).g_sl S).rp (a.ro 0 Z).rp) Z fun w a=>V 1 Z<|gl1<|xl<|ak<|aw<|aq<|ax [(6,I l),(7,f),(8,g),(9,I (b.length:Int)),(10,c),(11,d),(12,I j),(13,v64 aA)] Z ?_
  refine aT (F.FC b j o m) (fun (s:UInt64×L0) L w=>L=[(6,I l),(7,f),(8,g),(9,I (b.length:Int)),(10,c),(11,d),(12,I j),(13,v64 s.1)]/\St [] u w [U X f b,U X g o,U X c m,U X d s.2]) ?_ (aA,B) ⟨Z,a⟩ h
  rintro bA ⟨k,bm⟩ L w bB z aU h T
  try dsimp only at z
  obtain⟨rfl,a⟩:=z
  unfold F.FC at h
  refine aq<|R<|V 1 Z<|gl1<|R<|V 1 Z<|N (aC u30 Z (a.ro 0 Z)) Z<|V 1 Z<|P<|aq<|ax [(6,I l),(7,f),(8,g),(9,I (b.length:Int)),(10,c),(11,d),(12,I j),(13,v64 k),(14,v64 0),(66,f),(67,I (b.length:Int)),(68,I 0)] Z ?_
  refine aT (F.Er b j o m k) (fun (s:UInt64×Int×L0) L w=>L=[(6,I l),(7,f),(8,g),(9,I (b.length:Int)),(10,c),(11,d),(12,I j),(13,v64 k),(14,v64 s.1),(66,f),(67,I (b.length:Int)),(68,I s.2.1)]/\St [] u w [U X f b,U X g o,U X c m,U X d s.2.2]) ?_ (0,0,bm) ⟨Z,a⟩ h
  rintro bD ⟨C,bn,bE⟩ L w bF z aV h ab
  try dsimp only at z
  obtain⟨rfl,a⟩:=z
  unfold F.Er at h
  refine R<|V 1 Z<|gl1 ?_
  apply gl9 Z h<;>intro h
  ·refine gl5<|aw<|aq<|R<|V 1 Z<|J h fun D ac h=>N (bk u30 aN Z Z (a.ro 0 Z) ac) Z<|N (a9 u38 Z Z (a.ro 0 Z) ac Z) Z<|V 2 Z<|gl2<|V 3 Z<|N (aD Z (bK u38 u119 D)) Z<|N (aj Z Z (gD _ k D.toUInt64)) Z<|N (aj Z Z (bT _ C (k*D.toUInt64))) Z<|aZ h fun q aW h=>N (ba (v:=v64 q) (by rw[<-aW]; rfl)) Z<|gl2<|V 3 Z<|N (aD Z (cc u119 u38 q)) Z<|J h fun bG ad h=>N (bk u30 aN Z Z (a.ro 3 Z) ad) Z<|bo (bX (t:=q.toUInt32) aN Z Z a (i:=3) Z ad Z) fun w a=>aZ h fun bq aY h=>?_
   rw[aY]at a
   exact P<|al<|V 1 Z<|N (aj Z Z (cf _ q 32)) Z<|V 1 Z<|aE<|aF<|ak<|al<|V 2 Z<|aE<|bd (bc (aV (aO q 32,wI (bn+1),bq) _ _ ⟨Z,a⟩ (aK h ab)) Z)
  refine aQ<|av<|av<|have h:=aI h ab;aR<|ak<|R<|V 3 Z<|N (aD Z (cc u119 u38 C)) Z<|J h fun bH ae h=>N (bk u30 aN Z Z (a.ro 3 Z) ae) Z<|bo (bX (t:=C.toUInt32) aN Z Z a (i:=3) Z ae Z) fun w a=>aZ h fun E a2 h=>?_
  rw[a2]at a
  refine gl1<|R<|V 6 Z<|J h fun bI ah h=>N (z7 u30 aN Z Z Z (a.ro 1 Z) ah) Z<|V 1 Z<|J h fun bJ a3 h=>bf a Z (ur  a3 ((a.ro 1 Z).g_sl ah).rp (a.ro 3 Z).rp) Z fun w a=>V 1 Z<|P ?_
  apply gl9 Z h<;>intro h
  ·refine aQ<|av<|oZ Z<|av<|have h:=aI h T;aR<|ak<|R<|V 6 Z<|J h fun bL x h=>N (z7 u30 aN Z Z Z (a.ro 1 Z) x) Z<|V 1 Z<|have n:=a.pick (os':=[U X g o]++[U X f b,U X c m,U X d E]) [1,0,2,3] (by decide) Z;J h fun br a4 h=>aH Z (pz ((j:Int).toNat) ((wI ((wI (j+(b.length:Int)))+1):Int).toNat) a4 n.f ((a.ro 1 Z).part (by have:=(dI x).1; omega) (dI x).1.2.2) (n.giveO 2 Z)) Z ?_
   rintro _ w ⟨rfl,p⟩
   have a:=n.g p
   refine P<|al<|V 3 Z<|N (aD Z (cc u119 u38 k)) Z<|J h fun bM am h=>N (bk u30 aN Z Z (a.ro 2 Z) am) Z<|bo (bX (t:=k.toUInt32) aN Z Z a (i:=2) Z am Z) fun w a=>aZ h fun bs a5 h=>?_
   rw[a5]at a
   exact aE<|zt<|aF<|ak<|al<|V 3 Z<|aE<|bd (bc (aP (wI (j - 1),br.2,bs,E) _ _ ⟨Z,(a.d [1,0,2,3] Z Z)⟩ (aK h G)) Z)
  exact gl5<|al<|V 1 Z<|N (aj Z Z (eN _ k 1)) Z<|V 1 Z<|aE<|aF<|bd (bc (aU (k - 1,E) _ _ ⟨Z,a⟩ (aK h T)) Z)
 refine aQ<|av<|av<|have h:=aI h G;aR<|ak<|R<|V 2 Z<|have n:=a.pick (os':=[U X g o]++[U X f b,U X c m,U X d B]) [1,0,2,3] (by decide) Z;J h fun bt a6 h=>aH Z (pu l a6 n.f ) Z ?_
 rintro _ w ⟨rfl,p⟩
 have a:=n.g p
 refine gl1<|aX (fun w'=>St [] u w' [U X g bt,U X f b,U X c m,U X d B]) (fun _=>true) bQ (fun _ _ _ hf=>hf.2) (fun _ _ hf=>hf) (by kernel_rfl)<|have a:=a.drew;show lxE _ _ _ _ _ _ _ [0,1,2,3,4,5] _ _ from ao 3 Z a<|c7 h fun an h=>H a Z Z (fun w hF=>jH u30 aN Z Z (hF.ro 0 Z) (gu an)) Z<|ao 2 Z a<|bp a<|ak<|ay ?_
 cases h
 exact bY Z Z Z ⟨c,g,Z,an.2,a.d [2,0] Z Z⟩
theorem nm {f:World} {a0 a1:L0} {g j:Value} {r:L0×L0×Int}
  (h:F.Hi a0 a1=some r) (d:RP [] f X g a0) (b:RP [] f X j a1):Calls Tryz.prog 67 #[g,j] f (Ret fun v w=>∃u0 u1:Value,v=.tuple #[u0,u1,I r.2.2]/\St [] f w [U X u0 r.1,U X u1 r.2.1]):=by
 refine aB 55 Tryz.func67 Z Z Z<|have a:=St.k f;ax [(0,g),(1,j)] Z ?_
 unfold F.Hi at h
 refine R<|V 3 Z<|gl2<|V 1 Z<|J h fun aj C h=>dQ a Z (dE  C (d.b a.fr).rp) Z fun e w a=>V 1 Z<|J h fun al D h=>dQ a Z (dE  D (b.b a.fr).rp) Z fun c w a=>V 2 Z<|gl1<|aq<|R<|V 1 Z<|N (aC u30 Z ((b.tk3 c).b a.fr)) Z<|V 2 Z<|P ?_
 apply gl9 Z h<;>intro h
 ·refine R<|V 3 Z<|P<|ay<|bu<|aU ?_
  cases h
  exact dH Z Z Z Z ⟨L3,L3,Z,((a.nil X).nil X).d [1,0] Z Z⟩
 refine R<|V 2 Z<|J h fun am E h=>bf a Z (ic  E (d.b a.fr).rp (b.b a.fr).rp) Z fun w a=>V 2 Z<|P ?_
 apply gl9 Z h<;>intro h
 ·refine R<|V 1 Z<|J h fun an G h=>bC (wG u31 u30 aN Z Z Z a ((d.tk3 e).b a.fr) G) Z fun ad w a=>V 3 Z<|P<|ay<|bu<|aU ?_
  cases h
  exact dH Z Z Z Z ⟨L3,ad,Z,(a.nil X).d [0,1] Z Z⟩
 refine R<|V 1 Z<|N (aC u30 Z ((b.tk3 c).b a.fr)) Z<|V 2 Z<|P ?_
 apply gl9 Z h<;>intro h
 ·refine R<|V 2 Z<|J h fun ae k h=>N (bk u30 aN Z Z ((b.tk3 c).b a.fr) k) Z<|N (a9 u38 Z Z ((b.tk3 c).b a.fr) k Z) Z<|J h fun l p h=>eI a Z (uq ae p ((d.tk3 e).b a.fr).rp) Z fun L w a=>V 5 Z<|gl2<|V 1 Z<|J h fun m q h=>dQ a Z (eb  q (a.ro 0 Z).rp) Z fun s w a=>V 1 Z<|N (aD Z (bK u38 u119 l.2)) Z<|J h fun H t h=>aV a Z (qW l.2.toUInt64 t ) Z fun S w a=>V 3 Z<|P<|ay<|bu<|aU ?_
  cases h
  replace a:=a.trunc3 (i:=1) rfl s
  exact dH Z Z Z Z ⟨slV3 L X.sz 0 m m,S,Z,a.d [1,0] Z Z⟩
 refine cd<|aF<|ak<|R<|V 2 Z<|J h fun T u h=>aH Z (wy  u ((d.tk3 e).b a.fr).rp ((b.tk3 c).b a.fr).rp) Z ?_
 rintro _ w ⟨ab,ac,rfl,x,ah⟩
 have a:=a.e ah
 refine V 5 Z<|gl2<|V 1 Z<|J h fun n y h=>dQ a Z (eb  y (a.ro 0 Z).rp) Z fun z w a=>V 1 Z ?_
 replace a:=a.trunc (i:=1) rfl x
 refine J h fun o A h=>dQ a Z (eb  A (a.ro 1 Z).rp) Z fun B w a=>V 3 Z<|P<|ay ?_
 cases h
 replace a:=a.trunc3 (i:=0) rfl z
 replace a:=a.trunc3 (i:=1) rfl B
 exact dH Z Z Z Z ⟨slV3 ab X.sz 0 n n,slV3 (slV ac X.sz 0 T.2.2) X.sz 0 o o,Z,a.d [0,1] Z Z⟩
theorem kn {i:World} {a0:L0} {d:Value} (a1:Int) {r:Bool}
  (h:F.ET a0 a1=some r) (e:RP [] i X d a0):Calls Tryz.prog 54 #[d,I a1] i (Ret fun v w=>v=K r/\St [] i w []):=by
 refine aB 26 Tryz.func54 Z Z Z<|have c:=St.k i;ax [(0,d),(1,I a1)] Z ?_
 unfold F.ET at h
 refine R<|V 1 Z<|gl2<|V 3 Z ?_
 cases a:(decide ((0:Int)<=a1))
 case true=>
  have h:=cz h a
  try simp only[a]
  refine V 1 Z<|bB (t:=7) Z Z (aj Z Z (dW _ a1 32 (by decide))) Z<|V 1 Z<|bB (t:=7) Z Z (aC u31 Z (e.b c.fr)) Z<|V 3 Z ?_
  cases b:(decide ((wI (Int.tdiv a1 32))<(a0.length:Int)))
  case true=>
   have h:=cz h b
   try simp only[b]
   refine V 2 Z<|bB (t:=14) Z Z (aj Z Z (dW _ a1 32 (by decide))) Z<|J h fun f g h=>bB (t:=14) Z Z (bk u31 aN Z Z (e.b c.fr) g) Z<|bB (t:=14) Z Z (a9 u38 Z Z (e.b c.fr) g Z) Z<|V 1 Z<|bB (t:=14) Z Z (aj Z Z (fO _ a1 32 (by decide))) Z<|c7 h fun j h=>bB (t:=14) Z Z (aj Z Z (rJ _ f (Int.tmod a1 32) j)) Z<|bB (t:=14) Z Z (aj Z Z (eO _ (bA f (((Int.tmod a1 32)).toNat)) 1)) Z<|bB (t:=14) Z Z (aj Z Z (k7 _ ((bA f (((Int.tmod a1 32)).toNat)) &&& 1) 1)) Z<|V 2 Z<|P<|ay ?_
   cases h
   exact az Z Z ⟨Z,c⟩
  case false=>
   have h:=cA h b
   try simp only[b]
   refine V 12 Z<|P<|ay ?_
   cases h
   exact az Z Z ⟨Z,c⟩
 case false=>
  have h:=cA h a
  try simp only[a]
  refine V 19 Z<|P<|ay ?_
  cases h
  exact az Z Z ⟨Z,c⟩
theorem ko {f:World} {a0:L0} {d:Value} (a1:Int) {r:L0}
  (h:F.Ew a0 a1=some r) (c:RP [] f X d a0):Calls Tryz.prog 113 #[d,I a1] f (Ret fun v w=>St [] f w [U X v r]):=by
 refine aB 27 Tryz.func113 Z Z Z<|have a:=St.k f;ax [(0,d),(1,I a1)] Z ?_
 unfold F.Ew at h
 refine R<|V 1 Z<|gl2<|V 1 Z<|J h fun s g h=>dQ a Z (dE  g (c.b a.fr).rp) Z fun b w a=>V 1 Z<|gl2<|V 1 Z<|N (k8 Z Z) Z<|V 1 Z<|gl1<|R<|V 1 Z<|N (aj Z Z (dW _ (max a1 0) 32 (by decide))) Z<|V 1 Z<|N (aC u30 Z ((c.tk3 b).b a.fr)) Z<|V 1 Z<|P ?_
 apply gl9 Z h<;>intro h
 ·refine R<|V 1 Z<|gl8 ?_
  cases h
  exact az Z Z ((a.nil X).d [0] Z Z)
 refine gl6<|V 2 Z<|N (aj Z Z (dW _ (max a1 0) 32 (by decide))) Z<|J h fun t e h=>N (pr u30 aN Z Z ((c.tk3 b).b a.fr) e) Z<|J h fun n j h=>bC (jm u30 aN Z Z Z a (((c.tk3 b).g_sll e).b a.fr) j) Z fun o w a=>V 1 Z<|gl2<|V 2 Z<|N (aj Z Z (fO _ (max a1 0) 32 (by decide))) Z<|have p:=a.pick (os':=[U X o n]++[]) [0] (by decide) Z;J h fun u k h=>aH Z (pu (Int.tmod (max a1 0) 32) k p.f ) Z ?_
 rintro _ w ⟨rfl,q⟩
 have a:=p.g q
 refine gl2<|V 1 Z<|J h fun x l h=>dQ a Z (eb  l (a.ro 0 Z).rp) Z fun m w a=>V 1 Z<|P<|ay ?_
 cases h
 replace a:=a.trunc3 (i:=0) rfl m
 exact az Z Z (a.d [0] Z Z)
theorem rn {k:World} {a0 a1:L0} {u x:Value} {r:L0}
  (h:F.GG a0 a1=some r) (A:RP [] k X u a0) (B:RP [] k X x a1):Calls Tryz.prog 133 #[u,x] k (Ret fun v w=>St [] k w [U X v r]):=by
 refine aB 64 Tryz.func133 Z Z Z<|have a:=St.k k;ax [(0,u),(1,x)] Z ?_
 unfold F.GG at h
 refine R<|V 1 Z<|gl2<|V 1 Z<|J h fun l aH h=>dQ a Z (dE  aH (A.b a.fr).rp) Z fun y w a=>V 1 Z<|J h fun m aJ h=>dQ a Z (dE  aJ (B.b a.fr).rp) Z fun z w a=>V 2 Z<|P ?_
 refine a8 (r:=r) (fun (g:L0×L0) L w=>∃(b:Value) (c:Value),L=[(5,b),(6,c)]/\RP [] k X b g.1/\RP [] k X c g.2/\St [] k w []) (F.HH) ?_ ?_
 rotate_left
 ·intro C
  refine R<|V 1 Z<|N (aC u30 Z ((A.tk3 y).b a.fr)) Z<|V 1 Z<|N (aC u30 Z ((B.tk3 z).b a.fr)) Z<|V 1 Z<|P ?_
  apply gl9 Z h<;>intro h
  ·exact al<|V 4 Z<|P<|aG (C (a1.take m,a0.take l) _ _ ⟨slV3 x X.sz 0 m m,slV3 u X.sz 0 l l,Z,(B.tk3 z),(A.tk3 y),a⟩ h) Z
  exact gl5<|aG (C (a0.take l,a1.take m) _ _ ⟨slV3 u X.sz 0 l l,slV3 x X.sz 0 m m,Z,(A.tk3 y),(B.tk3 z),a⟩ h) Z
 rintro⟨D,aS⟩ L w hJ h
 try dsimp only at hJ
 obtain⟨b,c,rfl,d,n,a⟩:=hJ
 unfold F.HH at h
 refine R<|V 1 Z<|N (aC u30 Z (d.b a.fr)) Z<|V 1 Z<|J h fun aL am h=>bC (c9 (e:=X) u30 aN Z Z Z a am) Z fun f w a=>V 1 Z<|gl2<|V 1 Z<|gl1<|R<|V 1 Z<|N (aC u30 Z (d.b a.fr)) Z<|V 1 Z<|P<|aq<|ax [(5,b),(6,c),(7,f),(8,v64 0),(26,b),(27,I (D.length:Int)),(28,I 0)] Z ?_
 refine aT (F.Fc D aS) (fun (s:UInt64×Int×L0) L w=>L=[(5,b),(6,c),(7,f),(8,v64 s.1),(26,b),(27,I (D.length:Int)),(28,I s.2.1)]/\St [] k w [U X f s.2.2]) ?_ (0,0,aL) ⟨Z,a⟩ h
 rintro aV ⟨j,o,ae⟩ L w aM hI an h E
 try dsimp only at hI
 obtain⟨rfl,a⟩:=hI
 unfold F.Fc at h
 refine R<|V 1 Z<|gl1 ?_
 apply gl9 Z h<;>intro h
 ·refine gl5<|aw<|aq<|R<|V 1 Z<|J h fun p G h=>N (bk u30 aN Z Z (d.b a.fr) G) Z<|N (a9 u38 Z Z (d.b a.fr) G Z) Z<|V 2 Z<|gl2<|V 2 Z<|N (aD Z (bK u38 u119 p)) Z<|N (aj Z Z (bT _ j p.toUInt64)) Z<|V 1 Z<|P ?_
  refine a8 (r:=aM) (fun (g:UInt64) L w=>L=[(5,b),(6,c),(7,f),(8,v64 g),(9,I o),(26,b),(27,I (D.length:Int)),(28,I o)]/\St [] k w [U X f ae]) (F.HN o ae) ?_ ?_
  rotate_left
  ·intro S
   refine R<|V 2 Z<|N (aC u30 Z (n.b a.fr)) Z<|V 1 Z<|P ?_
   apply gl9 Z h<;>intro h
   ·exact al<|V 3 Z<|J h fun ah T h=>N (bk u30 aN Z Z (n.b a.fr) T) Z<|N (a9 u38 Z Z (n.b a.fr) T Z) Z<|N (aD Z (bK u38 u119 ah)) Z<|N (aj Z Z (bT _ (j+p.toUInt64) ah.toUInt64)) Z<|aZ h fun H ao h=>N (ba (v:=v64 H) (by rw[<-ao]; rfl)) Z<|P<|aG (S H _ _ ⟨Z,a⟩ h) Z
   exact gl5<|aG (S (j+p.toUInt64) _ _ ⟨Z,a⟩ h) Z
  rintro q L w hJ h
  try dsimp only at hJ
  obtain⟨rfl,a⟩:=hJ
  unfold F.HN at h
  refine R<|V 3 Z<|N (aD Z (cc u119 u38 q)) Z<|J h fun aW ab h=>N (bk u30 aN Z Z (a.ro 0 Z) ab) Z<|bo (bX (t:=q.toUInt32) aN Z Z a (i:=0) Z ab Z) fun w a=>aZ h fun aP ap h=>?_
  rw[ap]at a
  exact P<|al<|V 1 Z<|N (aj Z Z (cf _ q 32)) Z<|V 1 Z<|aE<|aF<|ak<|al<|V 2 Z<|aE<|bd (bc (an (aO q 32,wI (o+1),aP) _ _ ⟨Z,a⟩ (aK h E)) Z)
 refine aQ<|av<|av<|have h:=aI h E;aR<|ak<|R<|V 2 Z<|N (aC u30 Z (d.b a.fr)) Z<|V 1 Z<|N (aD Z (cc u119 u38 j)) Z<|J h fun aX ac h=>N (bk u30 aN Z Z (a.ro 0 Z) ac) Z<|bo (bX (t:=j.toUInt32) aN Z Z a (i:=0) Z ac Z) fun w a=>aZ h fun aY ar h=>?_
 rw[ar]at a
 refine gl2<|V 1 Z<|J h fun a2 au h=>dQ a Z (eb  au (a.ro 0 Z).rp) Z fun aA w a=>V 1 Z<|P<|ay ?_
 cases h
 replace a:=a.trunc3 (i:=0) rfl aA
 exact az Z Z (a.d [0] Z Z)
theorem kJ {c:World} {a0 a1:L0} {d f:Value} {r:L0×Bool}
  (h:F.EE a0 a1=some r) (b:RP [] c X d a0) (g:RP [] c X f a1):Calls Tryz.prog 115 #[d,f] c (Ret fun v w=>∃u0:Value,v=.tuple #[u0,K r.2]/\St [] c w [U X u0 r.1]):=by
 refine aB 28 Tryz.func115 Z Z Z<|have a:=St.k c;ax [(0,d),(1,f)] Z ?_
 unfold F.EE at h
 refine R<|V 2 Z<|gl1<|R<|V 2 Z<|J h fun C q h=>bf a Z (ic  q (b.b a.fr).rp (g.b a.fr).rp) Z fun w a=>V 1 Z<|P ?_
 apply gl9 Z h<;>intro h
 ·refine R<|V 2 Z<|gl8 ?_
  cases h
  exact bY Z Z Z ⟨L3,Z,(a.nil X).d [0] Z Z⟩
 refine gl6<|V 1 Z<|J h fun D s h=>dQ a Z (dE  s (b.b a.fr).rp) Z fun j w a=>V 1 Z<|J h fun E t h=>dQ a Z (dE  t (g.b a.fr).rp) Z fun u w a=>V 2 Z<|gl2<|V 1 Z<|N (aC u30 Z ((b.tk3 j).b a.fr)) Z<|J h fun G x h=>bC (c9 (e:=X) u30 aN Z Z Z a x) Z fun o w a=>V 1 Z<|gl2<|V 2 Z<|bC (ql (e:=X) u30 aN Z Z Z a (i:=0) Z ((b.tk3 j).b a.fr)) Z ?_
 rintro v_q w ⟨hv_q,a⟩
 subst v_q
 obtain⟨p,y,h⟩:=eK h
 rw[y]at a
 refine gl2<|V 2 Z<|have z:=a.pick (os':=[U X o p]++[]) [0] (by decide) Z;J h fun B l h=>aH Z (pz 0 p.length l z.f (a.ro 0 Z).whole ((g.tk3 u).f (W Z) z)) Z ?_
 rintro _ w ⟨rfl,A⟩
 have a:=z.g A
 refine gl2<|V 1 Z<|J h fun k m h=>dQ a Z (eb  m (a.ro 0 Z).rp) Z fun n w a=>V 2 Z<|P<|ay ?_
 cases h
 replace a:=a.trunc3 (i:=0) rfl n
 exact bY Z Z Z ⟨slV3 o X.sz 0 k k,Z,a.d [0] Z Z⟩
end Go.Proofs
