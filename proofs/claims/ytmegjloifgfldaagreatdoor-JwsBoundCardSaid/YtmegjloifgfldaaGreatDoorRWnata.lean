import Derived.Test.YtmegjloifgfldaaGreatDoorRW0
import Derived.Test.YtmegjloifgfldaaGreatDoorGkFman
import Derived.Test.YtmegjloifgfldaaGreatDoorRWlib
set_option linter.unusedVariables false
set_option linter.unusedSimpArgs false
set_option linter.unusedSectionVars false
set_option maxRecDepth 4000
namespace Go.Proofs
open Go Go.RowKit Go.Gk
open Go.Gk renaming aa -> V, af -> M, ag -> O, ai -> J, e32 -> X, gl3 -> Q, gl4 -> R, own -> U, vB -> N, vI -> H
open Nat renaming le_of_ble_eq_true -> W
theorem dN {k:World} {a0:Q0} {d:Value} {r:Nat}
  (h:F.GX a0=some r) (a:RP [] k X d a0):Calls Tryz.prog 61 #[d] k (Ret fun v w=>v=slV3 d X.sz 0 r r/\r<=a0.length/\St [] k w []):=by
 refine ax 26 Tryz.func61 Z Z Z<|have b:=St.k k;ay [(0,d)] Z ?_
 unfold F.GX at h
 refine R<|V 1 Z<|gl1<|av<|gm [(0,slV d X.sz 0 a0.length)] ⟨(congrArg some a.1.full),K⟩ ?_
 refine bg (F.Kv a0) (fun (s:Nat) L w=>L=[(0,slV d X.sz 0 s)]/\s<=a0.length/\St [] k w []) ?_ a0.length ⟨Z,(Nat.le_refl _),b⟩ h
 rintro y f L w q u p h l
 try dsimp only at u
 obtain⟨rfl,c,b⟩:=u
 unfold F.Kv at h
 refine az ?_
 refine aT (r:=q) (fun (g:Bool) L w=>L=[(0,slV d X.sz 0 f),(14,N g)]/\St [] k w []) (F.HT a0 f) ?_ ?_
 rotate_left
 ·intro m
  refine am<|V 1 Z<|O (aD u57 Z ((a.b b.fr).tk c)) Z<|V 2 Z ?_
  cases e:(decide ((0:Int)<((a0.take f).length:Int)))
  case true=>
   have h:=bD h e
   try simp only[e]
   exact V 2 Z<|aI (t:=6) Z Z (aD u57 Z ((a.b b.fr).tk c)) Z<|V 1 Z<|M h fun o n h=>aI (t:=6) Z Z (sP u57 aN Z Z (a.b b.fr) c n) Z<|aI (t:=6) Z Z (aW u106 Z Z (a.b b.fr) (td n) Z) Z<|aI (t:=6) Z Z (aj Z Z (rT _ o 0)) Z<|V 1 Z<|Q<|aA (m (o == 0) _ _ ⟨Z,b⟩ h) Z
  case false=>
   have h:=bE h e
   try simp only[e]
   exact V 8 Z<|Q<|aA (m false _ _ ⟨Z,b⟩ h) Z
 rintro z L w x h
 try dsimp only at x
 obtain⟨rfl,b⟩:=x
 unfold F.HT at h
 apply gl9 Z h<;>intro h
 ·exact gl5<|av<|am<|V 2 Z<|O (aD u57 Z ((a.b b.fr).tk c)) Z<|V 1 Z<|dh h fun i h=>O (zm u57 aN Z Z (a.b b.fr) (oC i)) Z<|V 1 Z<|aE<|aF<|bn (br (p ((wI (((a0.take f).length:Int) - 1):Int).toNat) _ _ ⟨Z,i.2,b⟩ (aX h l)) Z)
 refine a7<|aB<|aB<|have h:=aS h l;a8<|al<|R<|V 2 Z<|O (aD u57 Z ((a.b b.fr).tk c)) Z<|V 1 Z<|O (aD u57 Z ((a.b b.fr).tk c)) Z<|dh h fun j h=>O (vr u57 aN Z Z Z ((a.b b.fr).tk c) j) Z<|V 1 Z<|Q<|ar ?_
 cases h
 exact au Z Z ⟨(a.1.cut3 _ _),(Nat.le_trans j.2.1 (wJ _ _)),b⟩
theorem cl {m:World} {a0:Q1} {c:Value} {r:Q0}
  (h:F.GN a0=some r) (f:RP [] m e8 c a0):Calls Tryz.prog 25 #[c] m (Ret fun v w=>St [] m w [U X v r]):=by
 refine ax 40 Tryz.func25 Z Z Z<|have a:=St.k m;ay [(0,c)] Z ?_
 unfold F.GN at h
 refine R<|V 1 Z<|gl2<|V 1 Z<|O (aD u25 Z (f.b a.fr)) Z<|V 1 Z<|O (aj Z Z (dM _ (wI ((a0.length:Int)+3)) 4 (by decide))) Z<|M h fun E A h=>bm (cW (e:=X) u57 aN Z Z Z a A) Z fun g w a=>V 1 Z<|gl1<|R<|V 1 Z<|O (aD u25 Z (f.b a.fr)) Z<|V 1 Z<|Q<|av<|ay [(0,c),(3,g),(12,c),(13,H (a0.length:Int)),(14,H 0)] Z ?_
 refine bg (F.Jw a0) (fun (s:Int×Q0) L w=>L=[(0,c),(3,g),(12,c),(13,H (a0.length:Int)),(14,H s.1)]/\St [] m w [U X g s.2]) ?_ (0,E) ⟨Z,a⟩ h
 rintro ab ⟨G,S⟩ L w ae T B h n
 try dsimp only at T
 obtain⟨rfl,a⟩:=T
 unfold F.Jw at h
 refine R<|V 1 Z<|gl1 ?_
 apply gl9 Z h<;>intro h
 ·refine gl5<|az<|av<|R<|V 1 Z<|M h fun j o h=>O (bh u25 ti5 Z Z (f.b a.fr) o) Z<|O (aW Tryz.underlying5 Z Z (f.b a.fr) o Z) Z<|V 2 Z<|gl2<|V 1 Z<|O (aD u25 Z (f.b a.fr)) Z<|V 3 Z<|bd h fun b q h=>O (bc (v:=H b) (by rw[<-q]; rfl)) Z<|Q<|dB (fun w'=>St [] m w' [U X g S]) (fun i=>!([13].contains i)) bL (fun _ _ _ C=>C.2) (fun _ _ C=>C) (by kernel_rfl)<|have a:=a.drew;show lxE _ _ _ _ _ _ _ [0,1,2,3,4,5,6,7,8,9,10,11,12,13] _ _ from an 2 Z a<|J a Z Z (fun w d=>aj Z Z (dM _ b 4 (by decide))) Z<|M h fun p k h=>J a Z Z (fun w d=>bh u57 aN Z Z (d.ro 0 Z) k) Z<|J a Z Z (fun w d=>aW u106 Z Z (d.ro 0 Z) k Z) Z<|an 1 Z a<|J a Z Z (fun w d=>aG Z (ma Tryz.underlying5 u106 j)) Z<|an 1 Z a<|J a Z Z (fun w d=>aj Z Z (jP _ b 4 (by decide))) Z<|J a Z Z (fun w d=>aj Z Z (dV _ 8 (Int.tmod b 4))) Z<|dh h fun u h=>J a Z Z (fun w d=>aj Z Z (sM _ j.toUInt32 (wI (8*(Int.tmod b 4))) u)) Z<|J a Z Z (fun w d=>aj Z Z (gy _ p (cv j.toUInt32 (((wI (8*(Int.tmod b 4)))).toNat)))) Z ?_
  refine M h fun ac l h=>J a Z Z (fun w d=>bh u57 aN Z Z (d.ro 0 Z) l) Z<|gw a Z Z (bZ (t:=(p ||| (cv j.toUInt32 (((wI (8*(Int.tmod b 4)))).toNat)))) aN Z Z a (i:=0) Z l Z) fun w a=>bd h fun D x h=>?_
  rw[x]at a
  exact a9 K<|aF<|al<|am<|V 2 Z<|aE<|bn (br (B (wI (G+1),D) _ _ ⟨Z,a⟩ (aX h n)) Z)
 refine a7<|aB<|aB<|have h:=aS h n;a8<|al<|R<|V 1 Z<|M h fun ad y h=>dq a Z (dN  y (a.ro 0 Z).rp) Z fun z w a=>V 1 Z<|Q<|ar ?_
 cases h
 replace a:=a.trunc3 (i:=0) rfl z
 exact au Z Z (a.d [0] Z Z)
theorem cM {b:World} {a0:Q0} {a:Value} {r:Nat}
  (h:F.GM a0=some r) (f:RP [] b X a a0):Calls Tryz.prog 62 #[a] b (Ret fun v w=>v=slV3 a X.sz 0 r r/\r<=a0.length/\St [] b w []):=by
 refine ax 5 Tryz.func62 Z Z Z<|have c:=St.k b;ay [(0,a)] Z ?_
 unfold F.GM at h
 refine R<|V 1 Z<|gl2<|V 1 Z<|M h fun g d h=>dq c Z (dN  d (f.b c.fr).rp) Z fun e w c=>V 1 Z<|Q<|ar ?_
 cases h
 exact au Z Z ⟨Z,e,c⟩
theorem dP {f:World} {a0:Q0} {d:Value} {r:Int}
  (h:F.GR a0=some r) (c:RP [] f X d a0):Calls Tryz.prog 31 #[d] f (Ret fun v w=>v=H r/\St [] f w []):=by
 refine ax 21 Tryz.func31 Z Z Z<|have a:=St.k f;ay [(0,d)] Z ?_
 unfold F.GR at h
 refine R<|V 1 Z<|gl2<|V 1 Z<|M h fun j g h=>dq a Z (cM  g (c.b a.fr).rp) Z fun b w a=>V 1 Z<|gl1<|R<|V 1 Z<|O (aD u57 Z ((c.tk3 b).b a.fr)) Z<|V 1 Z<|Q ?_
 apply gl9 Z h<;>intro h
 ·refine R<|V 1 Z<|gl8 ?_
  cases h
  exact au Z Z ⟨Z,a⟩
 refine gl6<|V 1 Z<|O (aD u57 Z ((c.tk3 b).b a.fr)) Z<|V 1 Z<|O (aj Z Z (dV _ 32 (wI (((a0.take j).length:Int) - 1)))) Z<|V 2 Z<|O (aD u57 Z ((c.tk3 b).b a.fr)) Z<|V 1 Z<|M h fun k e h=>O (bh u57 aN Z Z ((c.tk3 b).b a.fr) e) Z<|O (aW u106 Z Z ((c.tk3 b).b a.fr) e Z) Z<|M h fun l i h=>aR a Z (kb k i ) Z fun w a=>V 2 Z<|Q<|ar ?_
 cases h
 exact au Z Z ⟨Z,a⟩
theorem za {g:World} {a0:Q0} {d:Value} {r:UInt64×Bool}
  (h:F.Lu a0=some r) (e:RP [] g X d a0):Calls Tryz.prog 60 #[d] g (Ret fun v w=>v=.tuple #[v64 r.1,N r.2]/\St [] g w []):=by
 refine ax 29 Tryz.func60 Z Z Z<|have a:=St.k g;ay [(0,d)] Z ?_
 unfold F.Lu at h
 refine R<|V 2 Z<|gl2<|V 1 Z<|M h fun b n h=>dq a Z (cM  n (e.b a.fr).rp) Z fun c w a=>V 1 Z<|gl1<|R<|V 1 Z<|O (aD u57 Z ((e.tk3 c).b a.fr)) Z<|V 1 Z<|Q ?_
 apply gl9 Z h<;>intro h
 ·refine R<|V 2 Z<|gl8 ?_
  cases h
  exact bH Z Z Z ⟨Z,a⟩
 refine gl6<|V 1 Z<|gl1<|R<|V 1 Z<|O (aD u57 Z ((e.tk3 c).b a.fr)) Z<|V 1 Z<|Q<|av<|ay [(5,v64 0),(13,slV3 d X.sz 0 b b),(14,H ((a0.take b).length:Int)),(15,H 0)] Z ?_
 refine bg (F.HF a0 b) (fun (s:UInt64×Int) L w=>L=[(5,v64 s.1),(13,slV3 d X.sz 0 b b),(14,H ((a0.take b).length:Int)),(15,H s.2)]/\St [] g w []) ?_ (0,0) ⟨Z,a⟩ h
 rintro u ⟨q,f⟩ L w x t o h i
 try dsimp only at t
 obtain⟨rfl,a⟩:=t
 unfold F.HF at h
 refine R<|V 1 Z<|gl1 ?_
 apply gl9 Z h<;>intro h
 ·exact gl5<|az<|av<|R<|V 1 Z<|M h fun j k h=>O (bh u57 aN Z Z ((e.tk3 c).b a.fr) k) Z<|O (aW u106 Z Z ((e.tk3 c).b a.fr) k Z) Z<|V 2 Z<|Q<|am<|V 2 Z<|O (aG Z (bC u106 u103 j)) Z<|V 1 Z<|O (aj Z Z (dV _ 32 f)) Z<|dh h fun p h=>O (aj Z Z (sT _ j.toUInt64 (wI (32*f)) p)) Z<|O (aj Z Z (dO _ q (aH j.toUInt64 (((wI (32*f))).toNat)))) Z<|bd h fun l m h=>O (bc (v:=v64 l) (by rw[<-m]; rfl)) Z<|aE<|aF<|al<|am<|V 2 Z<|aE<|bn (br (o (l,wI (f+1)) _ _ ⟨Z,a⟩ (aX h i)) Z)
 refine a7<|aB<|aB<|have h:=aS h i;a8<|al<|R<|V 3 Z<|Q<|ar ?_
 cases h
 exact bH Z Z Z ⟨Z,a⟩
theorem dx {i:World} {a0 a1:Q0} {j k:Value} {r:Int}
  (h:F.GK a0 a1=some r) (e:RP [] i X j a0) (f:RP [] i X k a1):Calls Tryz.prog 26 #[j,k] i (Ret fun v w=>v=H r/\St [] i w []):=by
 refine ax 51 Tryz.func26 Z Z Z<|have a:=St.k i;ay [(0,j),(1,k)] Z ?_
 unfold F.GK at h
 refine R<|V 1 Z<|gl2<|V 1 Z<|M h fun l x h=>dq a Z (cM  x (e.b a.fr).rp) Z fun c w a=>V 1 Z<|M h fun m y h=>dq a Z (cM  y (f.b a.fr).rp) Z fun d w a=>V 2 Z<|gl1<|av<|R<|V 1 Z<|O (aD u57 Z ((e.tk3 c).b a.fr)) Z<|V 1 Z<|O (aD u57 Z ((f.tk3 d).b a.fr)) Z<|V 2 Z<|Q ?_
 apply gl9 Z h<;>intro h
 ·refine R<|V 1 Z<|Q<|ar<|aZ<|aM ?_
  cases h
  exact au Z Z ⟨Z,a⟩
 refine R<|V 1 Z<|O (aD u57 Z ((e.tk3 c).b a.fr)) Z<|V 1 Z<|O (aD u57 Z ((f.tk3 d).b a.fr)) Z<|V 2 Z<|Q ?_
 apply gl9 Z h<;>intro h
 ·refine R<|V 1 Z<|Q<|ar<|aZ<|aM ?_
  cases h
  exact au Z Z ⟨Z,a⟩
 refine cg<|aF<|al<|az<|R<|V 1 Z<|O (aD u57 Z ((e.tk3 c).b a.fr)) Z<|V 1 Z<|bd h fun u z h=>O (bc (v:=H u) (by rw[<-z]; rfl)) Z<|Q<|av<|ay [(5,slV3 j X.sz 0 l l),(6,slV3 k X.sz 0 m m),(7,H u)] Z ?_
 refine bg (F.Ix a0 a1 l m) (fun (s:Int) L w=>L=[(5,slV3 j X.sz 0 l l),(6,slV3 k X.sz 0 m m),(7,H s)]/\St [] i w []) ?_ u ⟨Z,a⟩ h
 rintro T G L w ab S A h g
 try dsimp only at S
 obtain⟨rfl,a⟩:=S
 unfold F.Ix at h
 refine az<|R<|V 2 Z<|Q ?_
 apply gl9 Z h<;>intro h
 ·refine gl5<|az<|av<|av<|az<|aQ (fun w'=>St [] i w' []) (fun _=>true) bL (fun _ _ _ n=>n.2) (fun _ _ n=>n) (by kernel_rfl)<|have a:=a.drew;show lxE _ _ _ _ _ _ _ [0,1,2,3,4,5,6,7,8,9] _ _ from an 2 Z a<|M h fun B o h=>J a Z Z (fun w b=>bh u57 aN Z Z ((e.tk3 c).b b.fr) o) Z<|J a Z Z (fun w b=>aW u106 Z Z ((e.tk3 c).b b.fr) o Z) Z<|an 2 Z a<|M h fun C p h=>J a Z Z (fun w b=>bh u57 aN Z Z ((f.tk3 d).b b.fr) p) Z<|J a Z Z (fun w b=>aW u106 Z Z ((f.tk3 d).b b.fr) p Z) Z<|J a Z Z (fun w b=>aj Z Z (r8 _ B C)) Z<|an 1 Z a<|a9 a<|al ?_
  apply gl9 Z h<;>intro h
  ·refine R<|V 1 Z<|Q<|ar<|aZ<|aZ<|aM<|aM<|have h:=aS h g;aZ<|aM ?_
   cases h
   exact au Z Z ⟨Z,a⟩
  refine az<|aQ (fun w'=>St [] i w' []) (fun _=>true) bL (fun _ _ _ n=>n.2) (fun _ _ n=>n) (by kernel_rfl)<|have a:=a.drew;show lxE _ _ _ _ _ _ _ [0,1,2,3,4,5,6,7,8,9] _ _ from an 2 Z a<|M h fun D q h=>J a Z Z (fun w b=>bh u57 aN Z Z ((e.tk3 c).b b.fr) q) Z<|J a Z Z (fun w b=>aW u106 Z Z ((e.tk3 c).b b.fr) q Z) Z<|an 2 Z a<|M h fun E t h=>J a Z Z (fun w b=>bh u57 aN Z Z ((f.tk3 d).b b.fr) t) Z<|J a Z Z (fun w b=>aW u106 Z Z ((f.tk3 d).b b.fr) t Z) Z<|J a Z Z (fun w b=>aj Z Z (Eo _ D E)) Z<|an 1 Z a<|a9 a<|al ?_
  apply gl9 Z h<;>intro h
  ·refine R<|V 1 Z<|Q<|ar<|aZ<|aZ<|aM<|aM<|have h:=aS h g;aZ<|aM ?_
   cases h
   exact au Z Z ⟨Z,a⟩
  exact cg<|aF<|aF<|al<|am<|V 3 Z<|aE<|bn (br (A (wI (G - 1)) _ _ ⟨Z,a⟩ (aX h g)) Z)
 refine a7<|aB<|aB<|have h:=aS h g;a8<|al<|R<|V 1 Z<|Q<|ar ?_
 cases h
 exact au Z Z ⟨Z,a⟩
theorem nM {u:World} {a0 a1:Q0} {g f:Value} {r:Q0}
  (h:F.HU a0 a1=some r) (q:RP [] u X g a0) (l:RP [] u X f a1):Calls Tryz.prog 65 #[g,f] u (Ret fun v w=>St [] u w [U X v r]):=by
 refine ax 73 Tryz.func65 Z Z Z<|have a:=St.k u;ay [(0,g),(1,f)] Z ?_
 unfold F.HU at h
 refine R<|V 1 Z<|gl2<|V 1 Z<|M h fun c ak h=>dq a Z (cM  ak (q.b a.fr).rp) Z fun o w a=>V 1 Z<|M h fun b an h=>dq a Z (cM  an (l.b a.fr).rp) Z fun j w a=>V 2 Z<|gl2<|V 1 Z<|O (aD u57 Z ((q.tk3 o).b a.fr)) Z<|V 1 Z<|O (aD u57 Z ((l.tk3 j).b a.fr)) Z<|V 1 Z<|M h fun aA ao h=>bm (cW (e:=X) u57 aN Z Z Z a ao) Z fun m w a=>V 1 Z<|gl1<|R<|V 1 Z<|O (aD u57 Z ((q.tk3 o).b a.fr)) Z<|V 1 Z<|Q<|av<|ay [(6,slV3 f X.sz 0 b b),(7,m),(23,slV3 g X.sz 0 c c),(24,H ((a0.take c).length:Int)),(25,H 0)] Z ?_
 refine bg (F.I9 a0 c a1 b) (fun (s:Int×Q0) L w=>L=[(6,slV3 f X.sz 0 b b),(7,m),(23,slV3 g X.sz 0 c c),(24,H ((a0.take c).length:Int)),(25,H s.1)]/\St [] u w [U X m s.2]) ?_ (0,aA) ⟨Z,a⟩ h
 rintro aH ⟨n,aC⟩ L w aI S T h z
 try dsimp only at S
 obtain⟨rfl,a⟩:=S
 unfold F.I9 at h
 refine R<|V 1 Z<|gl1 ?_
 apply gl9 Z h<;>intro h
 ·refine gl5<|az<|av<|R<|V 1 Z<|M h fun d A h=>O (bh u57 aN Z Z ((q.tk3 o).b a.fr) A) Z<|O (aW u106 Z Z ((q.tk3 o).b a.fr) A Z) Z<|V 2 Z<|gl2<|V 1 Z<|gl1<|R<|V 1 Z<|O (aD u57 Z ((l.tk3 j).b a.fr)) Z<|V 1 Z<|Q<|av<|ay [(6,slV3 f X.sz 0 b b),(7,m),(8,H n),(9,v32 d),(10,v64 0),(23,slV3 g X.sz 0 c c),(24,H ((a0.take c).length:Int)),(25,H n),(30,slV3 f X.sz 0 b b),(31,H ((a1.take b).length:Int)),(32,H 0)] Z ?_
  refine bg (F.H1 a1 b n d) (fun (s:UInt64×Int×Q0) L w=>L=[(6,slV3 f X.sz 0 b b),(7,m),(8,H n),(9,v32 d),(10,v64 s.1),(23,slV3 g X.sz 0 c c),(24,H ((a0.take c).length:Int)),(25,H n),(30,slV3 f X.sz 0 b b),(31,H ((a1.take b).length:Int)),(32,H s.2.1)]/\St [] u w [U X m s.2.2]) ?_ (0,0,aC) ⟨Z,a⟩ h
  rintro aJ ⟨x,ap,aK⟩ L w aL S ab h B
  try dsimp only at S
  obtain⟨rfl,a⟩:=S
  unfold F.H1 at h
  refine R<|V 1 Z<|gl1 ?_
  apply gl9 Z h<;>intro h
  ·refine gl5<|az<|av<|R<|V 1 Z<|M h fun p C h=>O (bh u57 aN Z Z ((l.tk3 j).b a.fr) C) Z<|O (aW u106 Z Z ((l.tk3 j).b a.fr) C Z) Z<|V 2 Z<|gl2<|V 2 Z<|O (aG Z (bC u106 u103 d)) Z<|V 1 Z<|O (aG Z (bC u106 u103 p)) Z<|O (aj Z Z (jw _ d.toUInt64 p.toUInt64)) Z<|V 4 Z<|M h fun y D h=>O (bh u57 aN Z Z (a.ro 0 Z) D) Z<|O (aW u106 Z Z (a.ro 0 Z) D Z) Z<|O (aG Z (bC u106 u103 y)) Z<|O (aj Z Z (cD _ (d.toUInt64*p.toUInt64) y.toUInt64)) Z<|O (aj Z Z (cD _ x ((d.toUInt64*p.toUInt64)+y.toUInt64))) Z<|bd h fun k ac h=>O (bc (v:=v64 k) (by rw[<-ac]; rfl)) Z<|gl2<|V 5 Z<|O (aG Z (ch u103 u106 k)) Z<|M h fun aM E h=>O (bh u57 aN Z Z (a.ro 0 Z) E) Z<|bo (bZ (t:=k.toUInt32) aN Z Z a (i:=0) Z E Z) fun w a=>bd h fun aq ad h=>?_
   rw[ad]at a
   exact Q<|am<|V 1 Z<|O (aj Z Z (cc _ k 32)) Z<|V 1 Z<|aE<|aF<|al<|am<|V 2 Z<|aE<|bn (br (ab (aP k 32,wI (ap+1),aq) _ _ ⟨Z,a⟩ (aX h B)) Z)
  refine a7<|aB<|aB<|have h:=aS h B;a8<|al<|am<|V 3 Z<|O (aD u57 Z ((l.tk3 j).b a.fr)) Z<|V 2 Z<|O (aG Z (ch u103 u106 x)) Z<|M h fun aO G h=>O (bh u57 aN Z Z (a.ro 0 Z) G) Z<|bo (bZ (t:=x.toUInt32) aN Z Z a (i:=0) Z G Z) fun w a=>bd h fun aw ae h=>?_
  rw[ae]at a
  exact aE<|aF<|al<|am<|V 2 Z<|aE<|bn (br (T (wI (n+1),aw) _ _ ⟨Z,a⟩ (aX h z)) Z)
 refine a7<|aB<|aB<|have h:=aS h z;a8<|al<|R<|V 1 Z<|M h fun aQ ah h=>dq a Z (dN  ah (a.ro 0 Z).rp) Z fun J w a=>V 1 Z<|Q<|ar ?_
 cases h
 replace a:=a.trunc3 (i:=0) rfl J
 exact au Z Z (a.d [0] Z Z)
theorem ww {j:World} {a0:Q0} {b:Value} (a1:UInt32) {r:Q0×UInt32}
  (h:F.Lg a0 a1=some r) (c:RP [] j X b a0):Calls Tryz.prog 94 #[b,v32 a1] j (Ret fun v w=>∃u0:Value,v=.tuple #[u0,v32 r.2]/\St [] j w [U X u0 r.1]):=by
 refine ax 34 Tryz.func94 Z Z Z<|have a:=St.k j;ay [(0,b),(1,v32 a1)] Z ?_
 unfold F.Lg at h
 refine R<|V 2 Z<|gl2<|V 1 Z<|O (aD u57 Z (c.b a.fr)) Z<|M h fun z p h=>bm (cW (e:=X) u57 aN Z Z Z a p) Z fun d w a=>V 1 Z<|gl2<|V 1 Z<|gl1<|R<|V 1 Z<|O (aD u57 Z (c.b a.fr)) Z<|V 1 Z<|bd h fun k q h=>O (bc (v:=H k) (by rw[<-q]; rfl)) Z<|Q<|av<|ay [(0,b),(1,v32 a1),(6,d),(7,v32 0),(8,H k)] Z ?_
 refine bg (F.IN a0 a1) (fun (s:UInt32×Int×Q0) L w=>L=[(0,b),(1,v32 a1),(6,d),(7,v32 s.1),(8,H s.2.1)]/\St [] j w [U X d s.2.2]) ?_ (0,k,z) ⟨Z,a⟩ h
 rintro D ⟨A,B,S⟩ L w E C u h l
 try dsimp only at C
 obtain⟨rfl,a⟩:=C
 unfold F.IN at h
 refine az<|R<|V 2 Z<|Q ?_
 apply gl9 Z h<;>intro h
 ·refine gl5<|az<|av<|am<|V 5 Z<|M h fun x f h=>O (bh u57 aN Z Z (c.b a.fr) f) Z<|O (aW u106 Z Z (c.b a.fr) f Z) Z<|V 1 Z<|M h fun m n h=>aR a Z (pg A x a1 n ) Z fun w a=>V 3 Z<|M h fun G g h=>O (bh u57 aN Z Z (a.ro 0 Z) g) Z<|bo (bZ (t:=m.1) aN Z Z a (i:=0) Z g Z) fun w a=>bd h fun y o h=>?_
  rw[o]at a
  exact V 1 Z<|aE<|aF<|al<|am<|V 3 Z<|aE<|bn (br (u (m.2,wI (B - 1),y) _ _ ⟨Z,a⟩ (aX h l)) Z)
 refine a7<|aB<|aB<|have h:=aS h l;a8<|al<|R<|V 4 Z<|Q<|ar ?_
 cases h
 exact bH Z Z Z ⟨d,Z,a.d [0] Z Z⟩
theorem sr {b:World} (a0:UInt64) {r:Q0}
  (h:F.LC a0=some r) :Calls Tryz.prog 95 #[v64 a0] b (Ret fun v w=>St [] b w [U X v r]):=by
 refine ax 10 Tryz.func95 Z Z Z<|have a:=St.k b;ay [(0,v64 a0)] Z ?_
 unfold F.LC at h
 refine R<|V 1 Z<|gl2<|V 1 Z<|O (aG Z (ch u103 u106 a0)) Z<|V 1 Z<|O (aj Z Z (cc _ a0 32)) Z<|O (aG Z (ch u103 u106 (aP a0 32))) Z<|bm (bJ (e:=X) (l:=([a0.toUInt32,(aP a0 32).toUInt32]:Q0)) (vs:=[v32 a0.toUInt32,v32 ((aP a0 32).toUInt32)]) u57 aN Z Z Z Z (by decide) (by decide) a) Z fun f w a=>M h fun g c h=>dq a Z (dN  c (a.ro 0 Z).rp) Z fun d w a=>V 1 Z<|Q<|ar ?_
 cases h
 replace a:=a.trunc3 (i:=0) rfl d
 exact au Z Z (a.d [0] Z Z)
theorem vR {k:World} {a0 a1:Q0} {j e f:Value} {S:Q2} (a d:Nat) (a2:Int) {r:Q0}
  (h:F.JS a0 a d a1 a2=some r) (b:St S k k [U X j a0]) (p:iu j X.sz a d f) (q:RP S k X e a1):Calls Tryz.prog 147 #[f,e,H a2] k (Ret fun v w=>v=.tuple #[]/\St S k w [U X j r]):=by
 refine ax 37 Tryz.func147 Z Z Z<|ay [(0,f),(1,e),(2,H a2)] Z ?_
 unfold F.JS at h
 refine R<|V 1 Z<|gl2<|V 1 Z<|O (aD u57 Z ((b.ro 0 Z).po p)) Z<|V 1 Z<|Q<|av<|ay [(0,f),(1,e),(2,H a2),(6,v32 0),(10,H (((a0.drop a).take (d - a)).length:Int)),(11,H 0)] Z ?_
 refine bg (F.IC a d a0 a1 a2) (fun (s:UInt32×Int×Q0) L w=>L=[(0,f),(1,e),(2,H a2),(6,v32 s.1),(10,H (((a0.drop a).take (d - a)).length:Int)),(11,H s.2.1)]/\St S k w [U X j s.2.2]) ?_ (0,0,a0) ⟨Z,b⟩ h
 rintro ae ⟨l,m,D⟩ L w T hI E h u
 try dsimp only at hI
 obtain⟨rfl,b⟩:=hI
 unfold F.IC at h
 refine R<|V 1 Z<|gl1 ?_
 apply gl9 Z h<;>intro h
 ·refine gl5<|az<|av<|R<|V 2 Z<|gl2<|V 1 Z<|Q ?_
  refine aT (r:=T) (fun (g:UInt32) L w=>L=[(0,f),(1,e),(2,H a2),(6,v32 l),(7,H m),(8,v32 g),(10,H (((a0.drop a).take (d - a)).length:Int)),(11,H m)]/\St S k w [U X j D]) (F.KC a d a2 l m D) ?_ ?_
  rotate_left
  ·intro n
   refine R<|V 2 Z<|O (aD u57 Z (q.b b.fr)) Z<|V 1 Z<|Q ?_
   apply gl9 Z h<;>intro h
   ·exact am<|V 2 Z<|M h fun ac x h=>O (bh u57 aN Z Z (q.b b.fr) x) Z<|O (aW u106 Z Z (q.b b.fr) x Z) Z<|V 1 Z<|Q<|aA (n ac _ _ ⟨Z,b⟩ h) Z
   exact gl5<|aA (n 0 _ _ ⟨Z,b⟩ h) Z
  rintro c L w hJ h
  try dsimp only at hJ
  obtain⟨rfl,b⟩:=hJ
  unfold F.KC at h
  refine R<|V 4 Z<|dh h fun z h=>O (aj Z Z (sM _ c a2 z)) Z<|V 1 Z<|O (aj Z Z (gy _ (cv c ((a2).toNat)) l)) Z<|M h fun ah o h=>O (bh u57 aN Z Z ((b.ro 0 Z).po p) o) Z<|bo (qf (t:=((cv c ((a2).toNat)) ||| l)) aN Z Z b (i:=0) Z p o Z) fun w b=>bd h fun G A h=>?_
  rw[A]at b
  exact Q<|am<|V 1 Z<|O (aG Z (bC u106 u103 c)) Z<|V 1 Z<|dh h fun B h=>O (aj Z Z (sT _ c.toUInt64 a2 B)) Z<|O (aj Z Z (cc _ (aH c.toUInt64 ((a2).toNat)) 32)) Z<|O (aG Z (ch u103 u106 (aP (aH c.toUInt64 ((a2).toNat)) 32))) Z<|bd h fun y C h=>O (bc (v:=v32 y) (by rw[<-C]; rfl)) Z<|aE<|aF<|al<|am<|V 2 Z<|aE<|bn (br (E (y,wI (m+1),G) _ _ ⟨Z,b⟩ (aX h u)) Z)
 refine a7<|aB<|aB<|have h:=aS h u;a8 ?_
 cases h
 exact gt Z ⟨Z,b.d [0] Z Z⟩
theorem sc {j:World} {a0 a1:Q0} {m n:Value} {r:UInt64}
  (h:F.LR a0 a1=some r) (o:RP [] j X m a0) (e:RP [] j X n a1):Calls Tryz.prog 148 #[m,n] j (Ret fun v w=>v=v64 r/\St [] j w []):=by
 refine ax 75 Tryz.func148 Z Z Z<|have a:=St.k j;ay [(0,m),(1,n)] Z ?_
 unfold F.LR at h
 refine R<|V 1 Z<|gl2<|V 1 Z<|O (aD u57 Z (e.b a.fr)) Z<|V 1 Z<|gl1<|aQ (fun w'=>St [] j w' []) (fun _=>true) bL (fun _ _ _ k=>k.2) (fun _ _ k=>k) (by kernel_rfl)<|have a:=a.drew;show lxE _ _ _ _ _ _ _ [0,1,2,3,4,5,6,7,8,9,10,11,12,13] _ _ from an 2 Z a<|M h fun G S h=>J a Z Z (fun w c=>bh u57 aN Z Z (o.b c.fr) S) Z<|J a Z Z (fun w c=>aW u106 Z Z (o.b c.fr) S Z) Z<|J a Z Z (fun w c=>aG Z (bC u106 u103 G)) Z<|J a Z Z (fun w c=>aj Z Z (cr _ G.toUInt64 32)) Z<|an 3 Z a<|M h fun ah T h=>J a Z Z (fun w c=>bh u57 aN Z Z (o.b c.fr) T) Z<|J a Z Z (fun w c=>aW u106 Z Z (o.b c.fr) T Z) Z<|J a Z Z (fun w c=>aG Z (bC u106 u103 ah)) Z<|J a Z Z (fun w c=>aj Z Z (dO _ (aH G.toUInt64 32) ah.toUInt64)) Z<|bd h fun l ak h=>J a Z Z (fun w c=>bc (v:=v64 l) (by rw[<-ak]; rfl)) Z<|a9 a<|al<|az<|aQ (fun w'=>St [] j w' []) (fun _=>true) bL (fun _ _ _ k=>k.2) (fun _ _ k=>k) (by kernel_rfl)<|have a:=a.drew;show lxE _ _ _ _ _ _ _ [0,1,2,3,4,5,6,7,8,9,10,11,12,13,14,15,16,17] _ _ from ?_
 refine an 4 Z a<|M h fun y ab h=>J a Z Z (fun w c=>bh u57 aN Z Z (e.b c.fr) ab) Z<|J a Z Z (fun w c=>aW u106 Z Z (e.b c.fr) ab Z) Z<|J a Z Z (fun w c=>aG Z (bC u106 u103 y)) Z<|dh h fun am h=>J a Z Z (fun w c=>aj Z Z (jo _ l y.toUInt64 am)) Z<|an 4 Z a<|M h fun z ac h=>J a Z Z (fun w c=>bh u57 aN Z Z (e.b c.fr) ac) Z<|J a Z Z (fun w c=>aW u106 Z Z (e.b c.fr) ac Z) Z<|J a Z Z (fun w c=>aG Z (bC u106 u103 z)) Z<|dh h fun ao h=>J a Z Z (fun w c=>aj Z Z (ft _ l z.toUInt64 ao)) Z<|an 2 Z a<|a9 a<|al ?_
 refine aT (r:=r) (fun (g:UInt64) L w=>L=[(7,v64 g)]/\St [] j w []) (F.L8) ?_ ?_
 rotate_left
 ·intro A
  refine av<|ay [(0,m),(1,n),(5,H (a1.length:Int)),(7,v64 (l / y.toUInt64)),(8,v64 (l%z.toUInt64))] Z ?_
  refine bg (F.HD a0 a1) (fun (s:UInt64×UInt64) L w=>L=[(0,m),(1,n),(5,H (a1.length:Int)),(7,v64 s.1),(8,v64 s.2)]/\St [] j w []) ?_ (l / y.toUInt64,l%z.toUInt64) ⟨Z,a⟩ h
  rintro aw ⟨d,f⟩ L w ap hI ae h p
  try dsimp only at hI
  obtain⟨rfl,a⟩:=hI
  unfold F.HD at h
  refine az ?_
  refine aT (r:=ap) (fun (g:Bool) L w=>L=[(0,m),(1,n),(5,H (a1.length:Int)),(7,v64 d),(8,v64 f),(61,N g)]/\St [] j w []) (F.H7 a1 d f) ?_ ?_
  rotate_left
  ·intro B
   refine aQ (fun w'=>St [] j w' []) (fun _=>true) bL (fun _ _ _ k=>k.2) (fun _ _ k=>k) (by kernel_rfl)<|have a:=a.drew;show lxE _ _ _ _ _ _ _ [0,1,2,3,4,5,6,7,8,9,10,11,12,13,14,15,16,17,18,19,20,21] _ _ from an 1 Z a<|J a Z Z (fun w c=>aj Z Z (xa _ d 4294967296)) Z<|an 1 Z a ?_
   cases i:(decide ((4294967296:UInt64)<=d))
   case true=>
    have h:=bD h i
    try simp only[i]
    exact ba (b:=true) (t:=42) a Z Z Z Z Z Z<|ba (b:=true) (t:=42) a Z Z Z Z Z Z<|ba (b:=true) (t:=42) a Z Z Z Z Z Z<|ba (b:=true) (t:=42) a Z Z Z Z Z Z<|ba (b:=true) (t:=42) a Z Z Z Z Z Z<|ba (b:=true) (t:=42) a Z Z Z Z Z Z<|ba (b:=true) (t:=42) a Z Z Z Z Z Z<|ba (b:=true) (t:=42) a Z Z Z Z Z Z<|ba (b:=true) (t:=42) a Z Z Z Z Z Z<|ba (b:=true) (t:=42) a Z Z Z Z Z Z<|ba (b:=true) (t:=42) a Z Z Z Z Z Z<|ba (b:=true) (t:=42) a Z Z Z Z Z Z<|ba (b:=true) (t:=42) a Z Z Z Z Z Z<|ba (b:=true) (t:=42) a Z Z Z Z Z Z<|ba (b:=true) (t:=42) a Z Z Z Z Z Z<|ba (b:=true) (t:=42) a Z Z Z Z Z Z<|ba (b:=true) (t:=42) a Z Z Z Z Z Z<|ba (b:=true) (t:=42) a Z Z Z Z Z Z<|an 1 Z a<|a9 a<|al<|aA (B true _ _ ⟨Z,a⟩ h) Z
   case false=>
    have h:=bE h i
    try simp only[i]
    refine bY (t:=42) a Z Z Z Z (fun w c=>ee Z) Z<|bY (t:=42) a Z Z Z Z (fun w c=>ee Z) Z<|bY (t:=42) a Z Z Z Z (fun w c=>ee Z) Z<|bY (t:=42) a Z Z Z Z (fun w c=>aj Z Z (rj _ (a1.length:Int) 2)) Z<|M h fun q C h=>bY (t:=42) a Z Z Z Z (fun w c=>bh u57 aN Z Z (e.b c.fr) C) Z<|bY (t:=42) a Z Z Z Z (fun w c=>aW u106 Z Z (e.b c.fr) C Z) Z<|bY (t:=42) a Z Z Z Z (fun w c=>aG Z (bC u106 u103 q)) Z<|bY (t:=42) a Z Z Z Z (fun w c=>aj Z Z (jw _ d q.toUInt64)) Z<|bY (t:=42) a Z Z Z Z (fun w c=>ee Z) Z<|bY (t:=42) a Z Z Z Z (fun w c=>aj Z Z (cr _ f 32)) Z<|bY (t:=42) a Z Z Z Z (fun w c=>ee Z) Z<|bY (t:=42) a Z Z Z Z (fun w c=>ee Z) Z<|bY (t:=42) a Z Z Z Z (fun w c=>aj Z Z (rj _ (a1.length:Int) 2)) Z<|M h fun u D h=>bY (t:=42) a Z Z Z Z (fun w c=>bh u57 aN Z Z (o.b c.fr) D) Z<|bY (t:=42) a Z Z Z Z (fun w c=>aW u106 Z Z (o.b c.fr) D Z) Z<|bY (t:=42) a Z Z Z Z (fun w c=>aG Z (bC u106 u103 u)) Z<|bY (t:=42) a Z Z Z Z (fun w c=>aj Z Z (dO _ (aH f 32) u.toUInt64)) Z ?_
    exact bY (t:=42) a Z Z Z Z (fun w c=>aj Z Z (me _ (d*q.toUInt64) ((aH f 32) ||| u.toUInt64))) Z<|an 1 Z a<|a9 a<|al<|aA (B (decide (((aH f 32) ||| u.toUInt64)<(d*q.toUInt64))) _ _ ⟨Z,a⟩ h) Z
  rintro aC L w hJ h
  try dsimp only at hJ
  obtain⟨rfl,a⟩:=hJ
  unfold F.H7 at h
  apply gl9 Z h<;>intro h
  ·refine gl5<|av<|R<|V 1 Z<|O (aj Z Z (fw _ d 1)) Z<|V 1 Z<|gl2<|V 4 Z<|M h fun x E h=>O (bh u57 aN Z Z (e.b a.fr) E) Z<|O (aW u106 Z Z (e.b a.fr) E Z) Z<|O (aG Z (bC u106 u103 x)) Z<|O (aj Z Z (cD _ f x.toUInt64)) Z<|V 1 Z<|gl2<|V 1 Z<|O (aj Z Z (xa _ (f+x.toUInt64) 4294967296)) Z<|Q ?_
   apply gl9 Z h<;>intro h
   ·exact a7<|ju Z<|aB<|have h:=aS h p;a8<|al<|aA (A (d - 1) _ _ ⟨Z,a⟩ h) Z
   exact cg<|aF<|bn (br (ae (d - 1,f+x.toUInt64) _ _ ⟨Z,a⟩ (aX h p)) Z)
  exact a7<|aB<|aB<|have h:=aS h p;a8<|al<|aA (A d _ _ ⟨Z,a⟩ h) Z
 rintro aE L w hJ h
 try dsimp only at hJ
 obtain⟨rfl,a⟩:=hJ
 unfold F.L8 at h
 refine R<|V 2 Z<|Q<|ar ?_
 cases h
 exact au Z Z ⟨Z,a⟩
theorem wx {c:World} {a0 a1:Q0} {d e:Value} {r:Bool}
  (h:F.IE a0 a1=some r) (f:RP [] c X d a0) (j:RP [] c X e a1):Calls Tryz.prog 149 #[d,e] c (Ret fun v w=>v=N r/\St [] c w []):=by
 refine ax 31 Tryz.func149 Z Z Z<|have a:=St.k c;ay [(0,d),(1,e)] Z ?_
 unfold F.IE at h
 refine R<|V 1 Z<|gl1<|R<|V 1 Z<|O (aD u57 Z (f.b a.fr)) Z<|V 1 Z<|bd h fun k p h=>O (bc (v:=H k) (by rw[<-p]; rfl)) Z<|Q<|av<|ay [(0,d),(1,e),(5,H k)] Z ?_
 refine bg (F.Hv a0 a1) (fun (s:Int) L w=>L=[(0,d),(1,e),(5,H s)]/\St [] c w []) ?_ k ⟨Z,a⟩ h
 rintro B t L w C u q h g
 try dsimp only at u
 obtain⟨rfl,a⟩:=u
 unfold F.Hv at h
 refine az<|R<|V 2 Z<|Q ?_
 apply gl9 Z h<;>intro h
 ·refine gl5<|az<|av<|az<|aQ (fun w'=>St [] c w' []) (fun _=>true) bL (fun _ _ _ i=>i.2) (fun _ _ i=>i) (by kernel_rfl)<|have a:=a.drew;show lxE _ _ _ _ _ _ _ [0,1,2,3,4,5,6,7,8] _ _ from an 2 Z a<|M h fun x l h=>J a Z Z (fun w b=>bh u57 aN Z Z (f.b b.fr) l) Z<|J a Z Z (fun w b=>aW u106 Z Z (f.b b.fr) l Z) Z<|an 2 Z a<|M h fun y m h=>J a Z Z (fun w b=>bh u57 aN Z Z (j.b b.fr) m) Z<|J a Z Z (fun w b=>aW u106 Z Z (j.b b.fr) m Z) Z<|J a Z Z (fun w b=>aj Z Z (oR _ x y)) Z<|a9 a<|al ?_
  apply gl9 Z h<;>intro h
  ·refine az<|aQ (fun w'=>St [] c w' []) (fun _=>true) bL (fun _ _ _ i=>i.2) (fun _ _ i=>i) (by kernel_rfl)<|have a:=a.drew;show lxE _ _ _ _ _ _ _ [0,1,2,3,4,5,6,7,8,9] _ _ from an 2 Z a<|M h fun z n h=>J a Z Z (fun w b=>bh u57 aN Z Z (f.b b.fr) n) Z<|J a Z Z (fun w b=>aW u106 Z Z (f.b b.fr) n Z) Z<|an 2 Z a<|M h fun A o h=>J a Z Z (fun w b=>bh u57 aN Z Z (j.b b.fr) o) Z<|J a Z Z (fun w b=>aW u106 Z Z (j.b b.fr) o Z) Z<|J a Z Z (fun w b=>aj Z Z (r8 _ z A)) Z<|an 1 Z a<|a9 a<|al<|ar<|aZ<|aM<|aM<|have h:=aS h g;aZ<|aM ?_
   cases h
   exact au Z Z ⟨Z,a⟩
  exact cg<|aF<|al<|am<|V 3 Z<|aE<|bn (br (q (wI (t - 1)) _ _ ⟨Z,a⟩ (aX h g)) Z)
 refine a7<|aB<|aB<|have h:=aS h g;a8<|al<|R<|V 1 Z<|Q<|ar ?_
 cases h
 exact au Z Z ⟨Z,a⟩
theorem qD {k:World} {a0 a1:Q0} {f d e:Value} {S:Q2} (b c:Nat) {r:UInt32×Q0}
  (h:F.HO a0 b c a1=some r) (a:St S k k [U X f a0]) (j:iu f X.sz b c e) (p:RP S k X d a1):Calls Tryz.prog 150 #[e,d] k (Ret fun v w=>v=v32 r.1/\St S k w [U X f r.2]):=by
 refine ax 36 Tryz.func150 Z Z Z<|ay [(0,e),(1,d)] Z ?_
 unfold F.HO at h
 refine R<|V 1 Z<|gl2<|V 1 Z<|gl1<|R<|V 1 Z<|O (aD u57 Z ((a.ro 0 Z).po j)) Z<|V 1 Z<|Q<|av<|ay [(0,e),(1,d),(5,v32 0),(9,H (((a0.drop b).take (c - b)).length:Int)),(10,H 0)] Z ?_
 refine bg (F.IT b c a0 a1) (fun (s:UInt32×Int×Q0) L w=>L=[(0,e),(1,d),(5,v32 s.1),(9,H (((a0.drop b).take (c - b)).length:Int)),(10,H s.2.1)]/\St S k w [U X f s.2.2]) ?_ (0,0,a0) ⟨Z,a⟩ h
 rintro ae ⟨q,l,B⟩ L w T hI C h u
 try dsimp only at hI
 obtain⟨rfl,a⟩:=hI
 unfold F.IT at h
 refine R<|V 1 Z<|gl1 ?_
 apply gl9 Z h<;>intro h
 ·refine gl5<|az<|av<|R<|V 2 Z<|gl2<|V 1 Z<|Q ?_
  refine aT (r:=T) (fun (g:UInt32) L w=>L=[(0,e),(1,d),(5,v32 q),(6,H l),(7,v32 g),(9,H (((a0.drop b).take (c - b)).length:Int)),(10,H l)]/\St S k w [U X f B]) (F.Jp b c q l B) ?_ ?_
  rotate_left
  ·intro m
   refine R<|V 2 Z<|O (aD u57 Z (p.b a.fr)) Z<|V 1 Z<|Q ?_
   apply gl9 Z h<;>intro h
   ·exact am<|V 2 Z<|M h fun ac x h=>O (bh u57 aN Z Z (p.b a.fr) x) Z<|O (aW u106 Z Z (p.b a.fr) x Z) Z<|V 1 Z<|Q<|aA (m ac _ _ ⟨Z,a⟩ h) Z
   exact gl5<|aA (m 0 _ _ ⟨Z,a⟩ h) Z
  rintro D L w hJ h
  try dsimp only at hJ
  obtain⟨rfl,a⟩:=hJ
  unfold F.Jp at h
  refine am<|V 4 Z<|M h fun E n h=>O (bh u57 aN Z Z ((a.ro 0 Z).po j) n) Z<|O (aW u106 Z Z ((a.ro 0 Z).po j) n Z) Z<|V 2 Z<|M h fun y z h=>aR a Z (pe E D q z ) Z fun w a=>V 3 Z<|M h fun ah o h=>O (bh u57 aN Z Z ((a.ro 0 Z).po j) o) Z<|bo (qf (t:=y.1) aN Z Z a (i:=0) Z j o Z) fun w a=>bd h fun G A h=>?_
  rw[A]at a
  exact V 1 Z<|aE<|aF<|al<|am<|V 2 Z<|aE<|bn (br (C (y.2,wI (l+1),G) _ _ ⟨Z,a⟩ (aX h u)) Z)
 refine a7<|aB<|aB<|have h:=aS h u;a8<|al<|R<|V 2 Z<|Q<|ar ?_
 cases h
 exact au Z Z ⟨Z,a.d [0] Z Z⟩
theorem qz {j:World} {a0:Q0} {b:Value} {S:Q2} (a1:Int) {r:Q0}
  (h:F.KV a0 a1=some r) (a:St S j j [U X b a0]):Calls Tryz.prog 151 #[b,H a1] j (Ret fun v w=>v=.tuple #[]/\St S j w [U X b r]):=by
 refine ax 38 Tryz.func151 Z Z Z<|ay [(0,b),(1,H a1)] Z ?_
 unfold F.KV at h
 refine R<|V 1 Z<|O (aD u57 Z (a.ro 0 Z)) Z<|V 1 Z<|Q<|av<|ay [(0,b),(1,H a1),(7,H (a0.length:Int)),(8,H 0)] Z ?_
 refine bg (F.Jj a0 a1) (fun (s:Int×Q0) L w=>L=[(0,b),(1,H a1),(7,H (a0.length:Int)),(8,H s.1)]/\St S j w [U X b s.2]) ?_ (0,a0) ⟨Z,a⟩ h
 rintro E ⟨d,u⟩ L w B C y h k
 try dsimp only at C
 obtain⟨rfl,a⟩:=C
 unfold F.Jj at h
 refine R<|V 1 Z<|gl1 ?_
 apply gl9 Z h<;>intro h
 ·refine gl5<|az<|av<|R<|V 2 Z<|gl2<|V 2 Z<|M h fun l m h=>O (bh u57 aN Z Z (a.ro 0 Z) m) Z<|O (aW u106 Z Z (a.ro 0 Z) m Z) Z<|O (aG Z (bC u106 u103 l)) Z<|V 1 Z<|Q ?_
  refine aT (r:=B) (fun (g:UInt64) L w=>L=[(0,b),(1,H a1),(4,H d),(5,v64 g),(7,H (a0.length:Int)),(8,H d)]/\St S j w [U X b u]) (F.Jy a1 d u) ?_ ?_
  rotate_left
  ·intro e
   refine R<|V 3 Z<|O (aD u57 Z (a.ro 0 Z)) Z<|V 1 Z<|Q ?_
   apply gl9 Z h<;>intro h
   ·exact am<|V 4 Z<|M h fun n o h=>O (bh u57 aN Z Z (a.ro 0 Z) o) Z<|O (aW u106 Z Z (a.ro 0 Z) o Z) Z<|O (aG Z (bC u106 u103 n)) Z<|O (aj Z Z (cr _ n.toUInt64 32)) Z<|O (aj Z Z (dO _ l.toUInt64 (aH n.toUInt64 32))) Z<|bd h fun x z h=>O (bc (v:=v64 x) (by rw[<-z]; rfl)) Z<|Q<|aA (e x _ _ ⟨Z,a⟩ h) Z
   exact gl5<|aA (e l.toUInt64 _ _ ⟨Z,a⟩ h) Z
  rintro c L w D h
  try dsimp only at D
  obtain⟨rfl,a⟩:=D
  unfold F.Jy at h
  refine am<|V 4 Z<|dh h fun p h=>O (aj Z Z (nZ _ c a1 p)) Z<|O (aG Z (ch u103 u106 (aP c ((a1).toNat)))) Z<|M h fun G f h=>O (bh u57 aN Z Z (a.ro 0 Z) f) Z<|bo (bZ (t:=((aP c ((a1).toNat)).toUInt32)) aN Z Z a (i:=0) Z f Z) fun w a=>bd h fun A q h=>?_
  rw[q]at a
  exact aE<|aF<|al<|am<|V 2 Z<|aE<|bn (br (y (wI (d+1),A) _ _ ⟨Z,a⟩ (aX h k)) Z)
 refine a7<|aB<|aB<|have h:=aS h k;a8 ?_
 cases h
 exact gt Z ⟨Z,a.d [0] Z Z⟩
theorem yK {u:World} {a0 a1:Q0} {ap aq:Value} {r:Q0×(Q0×Nat)}
  (h:F.LK a0 a1=some r) (au:RP [] u X ap a0) (y:RP [] u X aq a1):Calls Tryz.prog 96 #[ap,aq] u (Ret fun v w=>∃u0 u1:Value,v=.tuple #[u0,slV u1 X.sz 0 r.2.2]/\r.2.2<=r.2.1.length/\St [] u w [U X u0 r.1,U X u1 r.2.1]):=by
 refine ax 125 Tryz.func96 Z Z Z<|have a:=St.k u;ay [(0,ap),(1,aq)] Z ?_
 unfold F.LK at h
 refine R<|V 2 Z<|gl2<|V 2 Z<|O (aD u57 Z (y.b a.fr)) Z<|V 1 Z<|M h fun bw aw h=>O (bh u57 aN Z Z (y.b a.fr) aw) Z<|O (aW u106 Z Z (y.b a.fr) aw Z) Z<|M h fun l ba h=>aR a Z (jS bw ba ) Z fun w a=>V 1 Z<|gl2<|V 1 Z<|O (aD u57 Z (y.b a.fr)) Z<|M h fun a5 bb h=>bm (cW (e:=X) u57 aN Z Z Z a bb) Z fun f w a=>V 1 Z<|gl2<|V 3 Z<|have n:=a.pick (os':=[U X f a5]++[]) [0] (by decide) Z;M h fun b be h=>aK Z (vR 0 a5.length l be n.f (a.ro 0 Z).whole (y.f (W Z) n)) Z ?_
 rintro _ w ⟨rfl,p⟩
 have a:=n.g p
 refine gl2<|V 1 Z<|O (aD u57 Z (au.b a.fr)) Z<|V 1 Z<|M h fun a6 bf h=>bm (cW (e:=X) u57 aN Z Z Z a bf) Z fun g w a=>V 1 Z<|gl2<|V 3 Z<|have n:=a.pick (os':=[U X g a6]++[U X f b]) [0,1] (by decide) Z;M h fun bi aC h=>aK Z (vR 0 a6.length l aC n.f (a.ro 0 Z).whole (au.f (W Z) n)) Z ?_
 rintro _ w ⟨rfl,p⟩
 have a:=n.g p
 refine gl2<|V 1 Z<|O (aD u57 Z (a.ro 1 Z)) Z<|V 1 Z<|gl2<|V 1 Z<|O (aD u57 Z (au.b a.fr)) Z<|V 3 Z<|M h fun bj aH h=>bm (cW (e:=X) u57 aN Z Z Z a aH) Z fun c w a=>V 1 Z<|gl2<|V 2 Z<|M h fun bk aI h=>bm (cW (e:=X) u57 aN Z Z Z a aI) Z fun d w a=>V 1 Z<|gl1<|R<|V 1 Z<|O (aD u57 Z (a.ro 1 Z)) Z<|V 1 Z<|bd h fun A aJ h=>O (bc (v:=H A) (by rw[<-aJ]; rfl)) Z<|Q<|av<|ay [(6,H l),(7,f),(8,g),(9,H (b.length:Int)),(10,c),(11,d),(12,H A)] Z ?_
 refine bg (F.In l b) (fun (s:Int×Q0×Q0×Q0) L w=>L=[(6,H l),(7,f),(8,g),(9,H (b.length:Int)),(10,c),(11,d),(12,H s.1)]/\St [] u w [U X f b,U X g s.2.1,U X c s.2.2.1,U X d s.2.2.2]) ?_ (A,bi,bj,bk) ⟨Z,(a.d [3,2,1,0] Z Z)⟩ h
 rintro bx ⟨j,o,m,B⟩ L w bz z aL h G
 try dsimp only at z
 obtain⟨rfl,a⟩:=z
 unfold F.In at h
 refine az<|R<|V 2 Z<|Q ?_
 apply gl9 Z h<;>intro h
 ·refine gl5<|az<|av<|Ag<|R<|V 6 Z<|M h fun bA S h=>O (zk u57 aN Z Z Z (a.ro 1 Z) S) Z<|V 1 Z<|M h fun aA aM h=>aR a Z (sc  aM ((a.ro 1 Z).g_sl S).rp (a.ro 0 Z).rp) Z fun w a=>V 1 Z<|gl1<|zI<|al<|az<|av<|ay [(6,H l),(7,f),(8,g),(9,H (b.length:Int)),(10,c),(11,d),(12,H j),(13,v64 aA)] Z ?_
  refine bg (F.IG b j o m) (fun (s:UInt64×Q0) L w=>L=[(6,H l),(7,f),(8,g),(9,H (b.length:Int)),(10,c),(11,d),(12,H j),(13,v64 s.1)]/\St [] u w [U X f b,U X g o,U X c m,U X d s.2]) ?_ (aA,B) ⟨Z,a⟩ h
  rintro bB ⟨k,bl⟩ L w bD z aO h T
  try dsimp only at z
  obtain⟨rfl,a⟩:=z
  unfold F.IG at h
  refine av<|R<|V 1 Z<|gl1<|R<|V 1 Z<|O (aD u57 Z (a.ro 0 Z)) Z<|V 1 Z<|Q<|av<|ay [(6,H l),(7,f),(8,g),(9,H (b.length:Int)),(10,c),(11,d),(12,H j),(13,v64 k),(14,v64 0),(66,f),(67,H (b.length:Int)),(68,H 0)] Z ?_
  refine bg (F.HG b j o m k) (fun (s:UInt64×Int×Q0) L w=>L=[(6,H l),(7,f),(8,g),(9,H (b.length:Int)),(10,c),(11,d),(12,H j),(13,v64 k),(14,v64 s.1),(66,f),(67,H (b.length:Int)),(68,H s.2.1)]/\St [] u w [U X f b,U X g o,U X c m,U X d s.2.2]) ?_ (0,0,bl) ⟨Z,a⟩ h
  rintro bE ⟨C,bp,bF⟩ L w bG z aT h ab
  try dsimp only at z
  obtain⟨rfl,a⟩:=z
  unfold F.HG at h
  refine R<|V 1 Z<|gl1 ?_
  apply gl9 Z h<;>intro h
  ·refine gl5<|az<|av<|R<|V 1 Z<|M h fun D ac h=>O (bh u57 aN Z Z (a.ro 0 Z) ac) Z<|O (aW u106 Z Z (a.ro 0 Z) ac Z) Z<|V 2 Z<|gl2<|V 3 Z<|O (aG Z (bC u106 u103 D)) Z<|O (aj Z Z (jw _ k D.toUInt64)) Z<|O (aj Z Z (cD _ C (k*D.toUInt64))) Z<|bd h fun q aU h=>O (bc (v:=v64 q) (by rw[<-aU]; rfl)) Z<|gl2<|V 3 Z<|O (aG Z (ch u103 u106 q)) Z<|M h fun bI ad h=>O (bh u57 aN Z Z (a.ro 3 Z) ad) Z<|bo (bZ (t:=q.toUInt32) aN Z Z a (i:=3) Z ad Z) fun w a=>bd h fun bq aV h=>?_
   rw[aV]at a
   exact Q<|am<|V 1 Z<|O (aj Z Z (cc _ q 32)) Z<|V 1 Z<|aE<|aF<|al<|am<|V 2 Z<|aE<|bn (br (aT (aP q 32,wI (bp+1),bq) _ _ ⟨Z,a⟩ (aX h ab)) Z)
  refine a7<|aB<|aB<|have h:=aS h ab;a8<|al<|R<|V 3 Z<|O (aG Z (ch u103 u106 C)) Z<|M h fun bJ ae h=>O (bh u57 aN Z Z (a.ro 3 Z) ae) Z<|bo (bZ (t:=C.toUInt32) aN Z Z a (i:=3) Z ae Z) fun w a=>bd h fun E aY h=>?_
  rw[aY]at a
  refine gl1<|R<|V 6 Z<|M h fun bK ah h=>O (zk u57 aN Z Z Z (a.ro 1 Z) ah) Z<|V 1 Z<|M h fun bM aZ h=>aR a Z (wx  aZ ((a.ro 1 Z).g_sl ah).rp (a.ro 3 Z).rp) Z fun w a=>V 1 Z<|Q ?_
  apply gl9 Z h<;>intro h
  ·refine a7<|aB<|ju Z<|aB<|have h:=aS h T;a8<|al<|R<|V 6 Z<|M h fun bN x h=>O (zk u57 aN Z Z Z (a.ro 1 Z) x) Z<|V 1 Z<|have n:=a.pick (os':=[U X g o]++[U X f b,U X c m,U X d E]) [1,0,2,3] (by decide) Z;M h fun bs a2 h=>aK Z (qD ((j:Int).toNat) ((wI ((wI (j+(b.length:Int)))+1):Int).toNat) a2 n.f ((a.ro 1 Z).part (by have:=(cI x).1; omega) (cI x).1.2.2) (n.giveO 2 Z)) Z ?_
   rintro _ w ⟨rfl,p⟩
   have a:=n.g p
   refine Q<|am<|V 3 Z<|O (aG Z (ch u103 u106 k)) Z<|M h fun bO ak h=>O (bh u57 aN Z Z (a.ro 2 Z) ak) Z<|bo (bZ (t:=k.toUInt32) aN Z Z a (i:=2) Z ak Z) fun w a=>bd h fun bt a3 h=>?_
   rw[a3]at a
   exact aE<|BZ<|aF<|al<|am<|V 3 Z<|aE<|bn (br (aL (wI (j - 1),bs.2,bt,E) _ _ ⟨Z,(a.d [1,0,2,3] Z Z)⟩ (aX h G)) Z)
  exact gl5<|am<|V 1 Z<|O (aj Z Z (fw _ k 1)) Z<|V 1 Z<|aE<|aF<|bn (br (aO (k - 1,E) _ _ ⟨Z,a⟩ (aX h T)) Z)
 refine a7<|aB<|aB<|have h:=aS h G;a8<|al<|R<|V 2 Z<|have n:=a.pick (os':=[U X g o]++[U X f b,U X c m,U X d B]) [1,0,2,3] (by decide) Z;M h fun bu a4 h=>aK Z (qz l a4 n.f ) Z ?_
 rintro _ w ⟨rfl,p⟩
 have a:=n.g p
 refine gl1<|aQ (fun w'=>St [] u w' [U X g bu,U X f b,U X c m,U X d B]) (fun _=>true) bL (fun _ _ _ hf=>hf.2) (fun _ _ hf=>hf) (by kernel_rfl)<|have a:=a.drew;show lxE _ _ _ _ _ _ _ [0,1,2,3,4,5] _ _ from an 3 Z a<|dh h fun ao h=>J a Z Z (fun w hF=>mD u57 aN Z Z (hF.ro 0 Z) (oC ao)) Z<|an 2 Z a<|a9 a<|al<|ar ?_
 cases h
 exact bH Z Z Z ⟨c,g,Z,ao.2,a.d [2,0] Z Z⟩
theorem kE {f:World} {a0 a1:Q0} {g j:Value} {r:Q0×Q0×Int}
  (h:F.IR a0 a1=some r) (d:RP [] f X g a0) (b:RP [] f X j a1):Calls Tryz.prog 46 #[g,j] f (Ret fun v w=>∃u0 u1:Value,v=.tuple #[u0,u1,H r.2.2]/\St [] f w [U X u0 r.1,U X u1 r.2.1]):=by
 refine ax 55 Tryz.func46 Z Z Z<|have a:=St.k f;ay [(0,g),(1,j)] Z ?_
 unfold F.IR at h
 refine R<|V 3 Z<|gl2<|V 1 Z<|M h fun aj C h=>dq a Z (cM  C (d.b a.fr).rp) Z fun e w a=>V 1 Z<|M h fun ak D h=>dq a Z (cM  D (b.b a.fr).rp) Z fun c w a=>V 2 Z<|gl1<|av<|R<|V 1 Z<|O (aD u57 Z ((b.tk3 c).b a.fr)) Z<|V 2 Z<|Q ?_
 apply gl9 Z h<;>intro h
 ·refine R<|V 3 Z<|Q<|ar<|aZ<|aM ?_
  cases h
  exact dK Z Z Z Z ⟨Q3,Q3,Z,((a.nil X).nil X).d [1,0] Z Z⟩
 refine R<|V 2 Z<|M h fun am E h=>aR a Z (dx  E (d.b a.fr).rp (b.b a.fr).rp) Z fun w a=>V 2 Z<|Q ?_
 apply gl9 Z h<;>intro h
 ·refine R<|V 1 Z<|M h fun an G h=>bm (y9 u58 u57 aN Z Z Z a ((d.tk3 e).b a.fr) G) Z fun ad w a=>V 3 Z<|Q<|ar<|aZ<|aM ?_
  cases h
  exact dK Z Z Z Z ⟨Q3,ad,Z,(a.nil X).d [0,1] Z Z⟩
 refine R<|V 1 Z<|O (aD u57 Z ((b.tk3 c).b a.fr)) Z<|V 2 Z<|Q ?_
 apply gl9 Z h<;>intro h
 ·refine R<|V 2 Z<|M h fun ae k h=>O (bh u57 aN Z Z ((b.tk3 c).b a.fr) k) Z<|O (aW u106 Z Z ((b.tk3 c).b a.fr) k Z) Z<|M h fun l p h=>cV a Z (ww ae p ((d.tk3 e).b a.fr).rp) Z fun L w a=>V 5 Z<|gl2<|V 1 Z<|M h fun m q h=>dq a Z (dN  q (a.ro 0 Z).rp) Z fun s w a=>V 1 Z<|O (aG Z (bC u106 u103 l.2)) Z<|M h fun J t h=>aO a Z (sr l.2.toUInt64 t ) Z fun S w a=>V 3 Z<|Q<|ar<|aZ<|aM ?_
  cases h
  replace a:=a.trunc3 (i:=1) rfl s
  exact dK Z Z Z Z ⟨slV3 L X.sz 0 m m,S,Z,a.d [1,0] Z Z⟩
 refine cg<|aF<|al<|R<|V 2 Z<|M h fun T u h=>aK Z (yK  u ((d.tk3 e).b a.fr).rp ((b.tk3 c).b a.fr).rp) Z ?_
 rintro _ w ⟨ab,ac,rfl,x,ah⟩
 have a:=a.e ah
 refine V 5 Z<|gl2<|V 1 Z<|M h fun n y h=>dq a Z (dN  y (a.ro 0 Z).rp) Z fun z w a=>V 1 Z ?_
 replace a:=a.trunc (i:=1) rfl x
 refine M h fun o A h=>dq a Z (dN  A (a.ro 1 Z).rp) Z fun B w a=>V 3 Z<|Q<|ar ?_
 cases h
 replace a:=a.trunc3 (i:=0) rfl z
 replace a:=a.trunc3 (i:=1) rfl B
 exact dK Z Z Z Z ⟨slV3 ab X.sz 0 n n,slV3 (slV ac X.sz 0 T.2.2) X.sz 0 o o,Z,a.d [0,1] Z Z⟩
theorem lB {c:World} {a0 a1:Q0} {d f:Value} {r:Q0×Bool}
  (h:F.HR a0 a1=some r) (b:RP [] c X d a0) (g:RP [] c X f a1):Calls Tryz.prog 131 #[d,f] c (Ret fun v w=>∃u0:Value,v=.tuple #[u0,N r.2]/\St [] c w [U X u0 r.1]):=by
 refine ax 28 Tryz.func131 Z Z Z<|have a:=St.k c;ay [(0,d),(1,f)] Z ?_
 unfold F.HR at h
 refine R<|V 2 Z<|gl1<|R<|V 2 Z<|M h fun C q h=>aR a Z (dx  q (b.b a.fr).rp (g.b a.fr).rp) Z fun w a=>V 1 Z<|Q ?_
 apply gl9 Z h<;>intro h
 ·refine R<|V 2 Z<|gl8 ?_
  cases h
  exact bH Z Z Z ⟨Q3,Z,(a.nil X).d [0] Z Z⟩
 refine gl6<|V 1 Z<|M h fun D s h=>dq a Z (cM  s (b.b a.fr).rp) Z fun j w a=>V 1 Z<|M h fun E t h=>dq a Z (cM  t (g.b a.fr).rp) Z fun u w a=>V 2 Z<|gl2<|V 1 Z<|O (aD u57 Z ((b.tk3 j).b a.fr)) Z<|M h fun G x h=>bm (cW (e:=X) u57 aN Z Z Z a x) Z fun o w a=>V 1 Z<|gl2<|V 2 Z<|bm (rF (e:=X) u57 aN Z Z Z a (i:=0) Z ((b.tk3 j).b a.fr)) Z ?_
 rintro v_q w ⟨hv_q,a⟩
 subst v_q
 obtain⟨p,y,h⟩:=fF h
 rw[y]at a
 refine gl2<|V 2 Z<|have z:=a.pick (os':=[U X o p]++[]) [0] (by decide) Z;M h fun B l h=>aK Z (qD 0 p.length l z.f (a.ro 0 Z).whole ((g.tk3 u).f (W Z) z)) Z ?_
 rintro _ w ⟨rfl,A⟩
 have a:=z.g A
 refine gl2<|V 1 Z<|M h fun k m h=>dq a Z (dN  m (a.ro 0 Z).rp) Z fun n w a=>V 2 Z<|Q<|ar ?_
 cases h
 replace a:=a.trunc3 (i:=0) rfl n
 exact bH Z Z Z ⟨slV3 o X.sz 0 k k,Z,a.d [0] Z Z⟩
theorem k8 {k:World} {a0 a1:Q0} {u x:Value} {r:Q0}
  (h:F.HP a0 a1=some r) (A:RP [] k X u a0) (B:RP [] k X x a1):Calls Tryz.prog 143 #[u,x] k (Ret fun v w=>St [] k w [U X v r]):=by
 refine ax 64 Tryz.func143 Z Z Z<|have a:=St.k k;ay [(0,u),(1,x)] Z ?_
 unfold F.HP at h
 refine R<|V 1 Z<|gl2<|V 1 Z<|M h fun l aH h=>dq a Z (cM  aH (A.b a.fr).rp) Z fun y w a=>V 1 Z<|M h fun m aI h=>dq a Z (cM  aI (B.b a.fr).rp) Z fun z w a=>V 2 Z<|Q ?_
 refine aT (r:=r) (fun (g:Q0×Q0) L w=>∃(b:Value) (c:Value),L=[(5,b),(6,c)]/\RP [] k X b g.1/\RP [] k X c g.2/\St [] k w []) (F.KE) ?_ ?_
 rotate_left
 ·intro C
  refine R<|V 1 Z<|O (aD u57 Z ((A.tk3 y).b a.fr)) Z<|V 1 Z<|O (aD u57 Z ((B.tk3 z).b a.fr)) Z<|V 1 Z<|Q ?_
  apply gl9 Z h<;>intro h
  ·exact am<|V 4 Z<|Q<|aA (C (a1.take m,a0.take l) _ _ ⟨slV3 x X.sz 0 m m,slV3 u X.sz 0 l l,Z,(B.tk3 z),(A.tk3 y),a⟩ h) Z
  exact gl5<|aA (C (a0.take l,a1.take m) _ _ ⟨slV3 u X.sz 0 l l,slV3 x X.sz 0 m m,Z,(A.tk3 y),(B.tk3 z),a⟩ h) Z
 rintro⟨D,aM⟩ L w hJ h
 try dsimp only at hJ
 obtain⟨b,c,rfl,d,n,a⟩:=hJ
 unfold F.KE at h
 refine R<|V 1 Z<|O (aD u57 Z (d.b a.fr)) Z<|V 1 Z<|M h fun aJ ak h=>bm (cW (e:=X) u57 aN Z Z Z a ak) Z fun f w a=>V 1 Z<|gl2<|V 1 Z<|gl1<|R<|V 1 Z<|O (aD u57 Z (d.b a.fr)) Z<|V 1 Z<|Q<|av<|ay [(5,b),(6,c),(7,f),(8,v64 0),(26,b),(27,H (D.length:Int)),(28,H 0)] Z ?_
 refine bg (F.Il D aM) (fun (s:UInt64×Int×Q0) L w=>L=[(5,b),(6,c),(7,f),(8,v64 s.1),(26,b),(27,H (D.length:Int)),(28,H s.2.1)]/\St [] k w [U X f s.2.2]) ?_ (0,0,aJ) ⟨Z,a⟩ h
 rintro aQ ⟨j,o,ae⟩ L w aK hI an h E
 try dsimp only at hI
 obtain⟨rfl,a⟩:=hI
 unfold F.Il at h
 refine R<|V 1 Z<|gl1 ?_
 apply gl9 Z h<;>intro h
 ·refine gl5<|az<|av<|R<|V 1 Z<|M h fun p G h=>O (bh u57 aN Z Z (d.b a.fr) G) Z<|O (aW u106 Z Z (d.b a.fr) G Z) Z<|V 2 Z<|gl2<|V 2 Z<|O (aG Z (bC u106 u103 p)) Z<|O (aj Z Z (cD _ j p.toUInt64)) Z<|V 1 Z<|Q ?_
  refine aT (r:=aK) (fun (g:UInt64) L w=>L=[(5,b),(6,c),(7,f),(8,v64 g),(9,H o),(26,b),(27,H (D.length:Int)),(28,H o)]/\St [] k w [U X f ae]) (F.KN o ae) ?_ ?_
  rotate_left
  ·intro S
   refine R<|V 2 Z<|O (aD u57 Z (n.b a.fr)) Z<|V 1 Z<|Q ?_
   apply gl9 Z h<;>intro h
   ·exact am<|V 3 Z<|M h fun ah T h=>O (bh u57 aN Z Z (n.b a.fr) T) Z<|O (aW u106 Z Z (n.b a.fr) T Z) Z<|O (aG Z (bC u106 u103 ah)) Z<|O (aj Z Z (cD _ (j+p.toUInt64) ah.toUInt64)) Z<|bd h fun J ao h=>O (bc (v:=v64 J) (by rw[<-ao]; rfl)) Z<|Q<|aA (S J _ _ ⟨Z,a⟩ h) Z
   exact gl5<|aA (S (j+p.toUInt64) _ _ ⟨Z,a⟩ h) Z
  rintro q L w hJ h
  try dsimp only at hJ
  obtain⟨rfl,a⟩:=hJ
  unfold F.KN at h
  refine R<|V 3 Z<|O (aG Z (ch u103 u106 q)) Z<|M h fun aR ab h=>O (bh u57 aN Z Z (a.ro 0 Z) ab) Z<|bo (bZ (t:=q.toUInt32) aN Z Z a (i:=0) Z ab Z) fun w a=>bd h fun aL ap h=>?_
  rw[ap]at a
  exact Q<|am<|V 1 Z<|O (aj Z Z (cc _ q 32)) Z<|V 1 Z<|aE<|aF<|al<|am<|V 2 Z<|aE<|bn (br (an (aP q 32,wI (o+1),aL) _ _ ⟨Z,a⟩ (aX h E)) Z)
 refine a7<|aB<|aB<|have h:=aS h E;a8<|al<|R<|V 2 Z<|O (aD u57 Z (d.b a.fr)) Z<|V 1 Z<|O (aG Z (ch u103 u106 j)) Z<|M h fun aU ac h=>O (bh u57 aN Z Z (a.ro 0 Z) ac) Z<|bo (bZ (t:=j.toUInt32) aN Z Z a (i:=0) Z ac Z) fun w a=>bd h fun aV aq h=>?_
 rw[aq]at a
 refine gl2<|V 1 Z<|M h fun aY aw h=>dq a Z (dN  aw (a.ro 0 Z).rp) Z fun aC w a=>V 1 Z<|Q<|ar ?_
 cases h
 replace a:=a.trunc3 (i:=0) rfl aC
 exact au Z Z (a.d [0] Z Z)
end Go.Proofs
