import Derived.Test.YtmegjloifgfldaaGreatDoorRW0
import Derived.Test.YtmegjloifgfldaaGreatDoorGkFman
import Derived.Test.YtmegjloifgfldaaGreatDoorRWlib
set_option linter.unusedVariables false
set_option linter.unusedSimpArgs false
set_option linter.unusedSectionVars false
set_option maxRecDepth 4000
namespace Go.Proofs
open Go Go.RowKit Go.Gk
open Go.Gk renaming aa -> V, af -> M, ag -> O, ai -> J, e32 -> X, gl3 -> Q, gl4 -> R, own -> U, vB -> N, vI -> H
open Nat renaming le_of_ble_eq_true -> W
theorem dK {k:World} {a0:Q0} {d:Value} {r:Nat}
  (h:F.GS a0=some r) (a:RP [] k X d a0):Calls Tryz.prog 61 #[d] k (Ret fun v w=>v=slV3 d X.sz 0 r r/\r<=a0.length/\St [] k w []):=by
 refine ay 26 Tryz.func61 Z Z Z<|have b:=St.k k;ax [(0,d)] Z ?_
 unfold F.GS at h
 refine R<|V 1 Z<|gl1<|av<|gj [(0,slV d X.sz 0 a0.length)] ⟨(congrArg some a.1.full),K⟩ ?_
 refine bf (F.Kj a0) (fun (s:Nat) L w=>L=[(0,slV d X.sz 0 s)]/\s<=a0.length/\St [] k w []) ?_ a0.length ⟨Z,(Nat.le_refl _),b⟩ h
 rintro y f L w q u p h l
 try dsimp only at u
 obtain⟨rfl,c,b⟩:=u
 unfold F.Kj at h
 refine az ?_
 refine aU (r:=q) (fun (g:Bool) L w=>L=[(0,slV d X.sz 0 f),(14,N g)]/\St [] k w []) (F.HN a0 f) ?_ ?_
 rotate_left
 ·intro m
  refine al<|V 1 Z<|O (aD u57 Z ((a.b b.fr).tk c)) Z<|V 2 Z ?_
  cases e:(decide ((0:Int)<((a0.take f).length:Int)))
  case true=>
   have h:=bH h e
   try simp only[e]
   exact V 2 Z<|aO (t:=6) Z Z (aD u57 Z ((a.b b.fr).tk c)) Z<|V 1 Z<|M h fun o n h=>aO (t:=6) Z Z (sI u57 aL Z Z (a.b b.fr) c n) Z<|aO (t:=6) Z Z (aX u106 Z Z (a.b b.fr) (sZ n) Z) Z<|aO (t:=6) Z Z (aj Z Z (rN _ o 0)) Z<|V 1 Z<|Q<|aB (m (o == 0) _ _ ⟨Z,b⟩ h) Z
  case false=>
   have h:=bI h e
   try simp only[e]
   exact V 8 Z<|Q<|aB (m false _ _ ⟨Z,b⟩ h) Z
 rintro z L w x h
 try dsimp only at x
 obtain⟨rfl,b⟩:=x
 unfold F.HN at h
 apply gl9 Z h<;>intro h
 ·exact gl5<|av<|al<|V 2 Z<|O (aD u57 Z ((a.b b.fr).tk c)) Z<|V 1 Z<|db h fun i h=>O (zh u57 aL Z Z (a.b b.fr) (ox i)) Z<|V 1 Z<|aG<|aH<|bo (br (p ((wI (((a0.take f).length:Int) - 1):Int).toNat) _ _ ⟨Z,i.2,b⟩ (aW h l)) Z)
 refine aZ<|aA<|aA<|have h:=aR h l;a7<|am<|R<|V 2 Z<|O (aD u57 Z ((a.b b.fr).tk c)) Z<|V 1 Z<|O (aD u57 Z ((a.b b.fr).tk c)) Z<|db h fun j h=>O (vj u57 aL Z Z Z ((a.b b.fr).tk c) j) Z<|V 1 Z<|Q<|aq ?_
 cases h
 exact au Z Z ⟨(a.1.cut3 _ _),(Nat.le_trans j.2.1 (wB _ _)),b⟩
theorem ci {m:World} {a0:Q1} {c:Value} {r:Q0}
  (h:F.GJ a0=some r) (f:RP [] m e8 c a0):Calls Tryz.prog 25 #[c] m (Ret fun v w=>St [] m w [U X v r]):=by
 refine ay 40 Tryz.func25 Z Z Z<|have a:=St.k m;ax [(0,c)] Z ?_
 unfold F.GJ at h
 refine R<|V 1 Z<|gl2<|V 1 Z<|O (aD u25 Z (f.b a.fr)) Z<|V 1 Z<|O (aj Z Z (dJ _ (wI ((a0.length:Int)+3)) 4 (by decide))) Z<|M h fun E A h=>bn (cV (e:=X) u57 aL Z Z Z a A) Z fun g w a=>V 1 Z<|gl1<|R<|V 1 Z<|O (aD u25 Z (f.b a.fr)) Z<|V 1 Z<|Q<|av<|ax [(0,c),(3,g),(12,c),(13,H (a0.length:Int)),(14,H 0)] Z ?_
 refine bf (F.Jn a0) (fun (s:Int×Q0) L w=>L=[(0,c),(3,g),(12,c),(13,H (a0.length:Int)),(14,H s.1)]/\St [] m w [U X g s.2]) ?_ (0,E) ⟨Z,a⟩ h
 rintro ab ⟨G,S⟩ L w ae T B h n
 try dsimp only at T
 obtain⟨rfl,a⟩:=T
 unfold F.Jn at h
 refine R<|V 1 Z<|gl1 ?_
 apply gl9 Z h<;>intro h
 ·refine gl5<|az<|av<|R<|V 1 Z<|M h fun j o h=>O (bh u25 ti5 Z Z (f.b a.fr) o) Z<|O (aX Tryz.underlying5 Z Z (f.b a.fr) o Z) Z<|V 2 Z<|gl2<|V 1 Z<|O (aD u25 Z (f.b a.fr)) Z<|V 3 Z<|bg h fun b q h=>O (bd (v:=H b) (by rw[<-q]; rfl)) Z<|Q<|dy (fun w'=>St [] m w' [U X g S]) (fun i=>!([13].contains i)) bK (fun _ _ _ C=>C.2) (fun _ _ C=>C) (by kernel_rfl)<|have a:=a.drew;show lxE _ _ _ _ _ _ _ [0,1,2,3,4,5,6,7,8,9,10,11,12,13] _ _ from an 2 Z a<|J a Z Z (fun w d=>aj Z Z (dJ _ b 4 (by decide))) Z<|M h fun p k h=>J a Z Z (fun w d=>bh u57 aL Z Z (d.ro 0 Z) k) Z<|J a Z Z (fun w d=>aX u106 Z Z (d.ro 0 Z) k Z) Z<|an 1 Z a<|J a Z Z (fun w d=>aE Z (lY Tryz.underlying5 u106 j)) Z<|an 1 Z a<|J a Z Z (fun w d=>aj Z Z (kN _ b 4 (by decide))) Z<|J a Z Z (fun w d=>aj Z Z (ee _ 8 (Int.tmod b 4))) Z<|db h fun u h=>J a Z Z (fun w d=>aj Z Z (sF _ j.toUInt32 (wI (8*(Int.tmod b 4))) u)) Z<|J a Z Z (fun w d=>aj Z Z (gw _ p (cu j.toUInt32 (((wI (8*(Int.tmod b 4)))).toNat)))) Z ?_
  refine M h fun ac l h=>J a Z Z (fun w d=>bh u57 aL Z Z (d.ro 0 Z) l) Z<|gu a Z Z (bX (t:=(p ||| (cu j.toUInt32 (((wI (8*(Int.tmod b 4)))).toNat)))) aL Z Z a (i:=0) Z l Z) fun w a=>bg h fun D x h=>?_
  rw[x]at a
  exact a8 K<|aH<|am<|al<|V 2 Z<|aG<|bo (br (B (wI (G+1),D) _ _ ⟨Z,a⟩ (aW h n)) Z)
 refine aZ<|aA<|aA<|have h:=aR h n;a7<|am<|R<|V 1 Z<|M h fun ad y h=>dm a Z (dK  y (a.ro 0 Z).rp) Z fun z w a=>V 1 Z<|Q<|aq ?_
 cases h
 replace a:=a.trunc3 (i:=0) rfl z
 exact au Z Z (a.d [0] Z Z)
theorem cL {b:World} {a0:Q0} {a:Value} {r:Nat}
  (h:F.GI a0=some r) (f:RP [] b X a a0):Calls Tryz.prog 62 #[a] b (Ret fun v w=>v=slV3 a X.sz 0 r r/\r<=a0.length/\St [] b w []):=by
 refine ay 5 Tryz.func62 Z Z Z<|have c:=St.k b;ax [(0,a)] Z ?_
 unfold F.GI at h
 refine R<|V 1 Z<|gl2<|V 1 Z<|M h fun g d h=>dm c Z (dK  d (f.b c.fr).rp) Z fun e w c=>V 1 Z<|Q<|aq ?_
 cases h
 exact au Z Z ⟨Z,e,c⟩
theorem dM {f:World} {a0:Q0} {d:Value} {r:Int}
  (h:F.GN a0=some r) (c:RP [] f X d a0):Calls Tryz.prog 31 #[d] f (Ret fun v w=>v=H r/\St [] f w []):=by
 refine ay 21 Tryz.func31 Z Z Z<|have a:=St.k f;ax [(0,d)] Z ?_
 unfold F.GN at h
 refine R<|V 1 Z<|gl2<|V 1 Z<|M h fun j g h=>dm a Z (cL  g (c.b a.fr).rp) Z fun b w a=>V 1 Z<|gl1<|R<|V 1 Z<|O (aD u57 Z ((c.tk3 b).b a.fr)) Z<|V 1 Z<|Q ?_
 apply gl9 Z h<;>intro h
 ·refine R<|V 1 Z<|gl8 ?_
  cases h
  exact au Z Z ⟨Z,a⟩
 refine gl6<|V 1 Z<|O (aD u57 Z ((c.tk3 b).b a.fr)) Z<|V 1 Z<|O (aj Z Z (ee _ 32 (wI (((a0.take j).length:Int) - 1)))) Z<|V 2 Z<|O (aD u57 Z ((c.tk3 b).b a.fr)) Z<|V 1 Z<|M h fun k e h=>O (bh u57 aL Z Z ((c.tk3 b).b a.fr) e) Z<|O (aX u106 Z Z ((c.tk3 b).b a.fr) e Z) Z<|M h fun l i h=>aS a Z (j6 k i ) Z fun w a=>V 2 Z<|Q<|aq ?_
 cases h
 exact au Z Z ⟨Z,a⟩
theorem yX {g:World} {a0:Q0} {d:Value} {r:UInt64×Bool}
  (h:F.Li a0=some r) (e:RP [] g X d a0):Calls Tryz.prog 60 #[d] g (Ret fun v w=>v=.tuple #[v64 r.1,N r.2]/\St [] g w []):=by
 refine ay 29 Tryz.func60 Z Z Z<|have a:=St.k g;ax [(0,d)] Z ?_
 unfold F.Li at h
 refine R<|V 2 Z<|gl2<|V 1 Z<|M h fun b n h=>dm a Z (cL  n (e.b a.fr).rp) Z fun c w a=>V 1 Z<|gl1<|R<|V 1 Z<|O (aD u57 Z ((e.tk3 c).b a.fr)) Z<|V 1 Z<|Q ?_
 apply gl9 Z h<;>intro h
 ·refine R<|V 2 Z<|gl8 ?_
  cases h
  exact bE Z Z Z ⟨Z,a⟩
 refine gl6<|V 1 Z<|gl1<|R<|V 1 Z<|O (aD u57 Z ((e.tk3 c).b a.fr)) Z<|V 1 Z<|Q<|av<|ax [(5,v64 0),(13,slV3 d X.sz 0 b b),(14,H ((a0.take b).length:Int)),(15,H 0)] Z ?_
 refine bf (F.HB a0 b) (fun (s:UInt64×Int) L w=>L=[(5,v64 s.1),(13,slV3 d X.sz 0 b b),(14,H ((a0.take b).length:Int)),(15,H s.2)]/\St [] g w []) ?_ (0,0) ⟨Z,a⟩ h
 rintro u ⟨q,f⟩ L w x t o h i
 try dsimp only at t
 obtain⟨rfl,a⟩:=t
 unfold F.HB at h
 refine R<|V 1 Z<|gl1 ?_
 apply gl9 Z h<;>intro h
 ·exact gl5<|az<|av<|R<|V 1 Z<|M h fun j k h=>O (bh u57 aL Z Z ((e.tk3 c).b a.fr) k) Z<|O (aX u106 Z Z ((e.tk3 c).b a.fr) k Z) Z<|V 2 Z<|Q<|al<|V 2 Z<|O (aE Z (bC u106 u103 j)) Z<|V 1 Z<|O (aj Z Z (ee _ 32 f)) Z<|db h fun p h=>O (aj Z Z (sM _ j.toUInt64 (wI (32*f)) p)) Z<|O (aj Z Z (dL _ q (aF j.toUInt64 (((wI (32*f))).toNat)))) Z<|bg h fun l m h=>O (bd (v:=v64 l) (by rw[<-m]; rfl)) Z<|aG<|aH<|am<|al<|V 2 Z<|aG<|bo (br (o (l,wI (f+1)) _ _ ⟨Z,a⟩ (aW h i)) Z)
 refine aZ<|aA<|aA<|have h:=aR h i;a7<|am<|R<|V 3 Z<|Q<|aq ?_
 cases h
 exact bE Z Z Z ⟨Z,a⟩
theorem du {i:World} {a0 a1:Q0} {j k:Value} {r:Int}
  (h:F.GG a0 a1=some r) (e:RP [] i X j a0) (f:RP [] i X k a1):Calls Tryz.prog 26 #[j,k] i (Ret fun v w=>v=H r/\St [] i w []):=by
 refine ay 51 Tryz.func26 Z Z Z<|have a:=St.k i;ax [(0,j),(1,k)] Z ?_
 unfold F.GG at h
 refine R<|V 1 Z<|gl2<|V 1 Z<|M h fun l x h=>dm a Z (cL  x (e.b a.fr).rp) Z fun c w a=>V 1 Z<|M h fun m y h=>dm a Z (cL  y (f.b a.fr).rp) Z fun d w a=>V 2 Z<|gl1<|av<|R<|V 1 Z<|O (aD u57 Z ((e.tk3 c).b a.fr)) Z<|V 1 Z<|O (aD u57 Z ((f.tk3 d).b a.fr)) Z<|V 2 Z<|Q ?_
 apply gl9 Z h<;>intro h
 ·refine R<|V 1 Z<|Q<|aq<|bb<|aN ?_
  cases h
  exact au Z Z ⟨Z,a⟩
 refine R<|V 1 Z<|O (aD u57 Z ((e.tk3 c).b a.fr)) Z<|V 1 Z<|O (aD u57 Z ((f.tk3 d).b a.fr)) Z<|V 2 Z<|Q ?_
 apply gl9 Z h<;>intro h
 ·refine R<|V 1 Z<|Q<|aq<|bb<|aN ?_
  cases h
  exact au Z Z ⟨Z,a⟩
 refine cf<|aH<|am<|az<|R<|V 1 Z<|O (aD u57 Z ((e.tk3 c).b a.fr)) Z<|V 1 Z<|bg h fun u z h=>O (bd (v:=H u) (by rw[<-z]; rfl)) Z<|Q<|av<|ax [(5,slV3 j X.sz 0 l l),(6,slV3 k X.sz 0 m m),(7,H u)] Z ?_
 refine bf (F.Is a0 a1 l m) (fun (s:Int) L w=>L=[(5,slV3 j X.sz 0 l l),(6,slV3 k X.sz 0 m m),(7,H s)]/\St [] i w []) ?_ u ⟨Z,a⟩ h
 rintro T G L w ab S A h g
 try dsimp only at S
 obtain⟨rfl,a⟩:=S
 unfold F.Is at h
 refine az<|R<|V 2 Z<|Q ?_
 apply gl9 Z h<;>intro h
 ·refine gl5<|az<|av<|av<|az<|aQ (fun w'=>St [] i w' []) (fun _=>true) bK (fun _ _ _ n=>n.2) (fun _ _ n=>n) (by kernel_rfl)<|have a:=a.drew;show lxE _ _ _ _ _ _ _ [0,1,2,3,4,5,6,7,8,9] _ _ from an 2 Z a<|M h fun B o h=>J a Z Z (fun w b=>bh u57 aL Z Z ((e.tk3 c).b b.fr) o) Z<|J a Z Z (fun w b=>aX u106 Z Z ((e.tk3 c).b b.fr) o Z) Z<|an 2 Z a<|M h fun C p h=>J a Z Z (fun w b=>bh u57 aL Z Z ((f.tk3 d).b b.fr) p) Z<|J a Z Z (fun w b=>aX u106 Z Z ((f.tk3 d).b b.fr) p Z) Z<|J a Z Z (fun w b=>aj Z Z (rV _ B C)) Z<|an 1 Z a<|a8 a<|am ?_
  apply gl9 Z h<;>intro h
  ·refine R<|V 1 Z<|Q<|aq<|bb<|bb<|aN<|aN<|have h:=aR h g;bb<|aN ?_
   cases h
   exact au Z Z ⟨Z,a⟩
  refine az<|aQ (fun w'=>St [] i w' []) (fun _=>true) bK (fun _ _ _ n=>n.2) (fun _ _ n=>n) (by kernel_rfl)<|have a:=a.drew;show lxE _ _ _ _ _ _ _ [0,1,2,3,4,5,6,7,8,9] _ _ from an 2 Z a<|M h fun D q h=>J a Z Z (fun w b=>bh u57 aL Z Z ((e.tk3 c).b b.fr) q) Z<|J a Z Z (fun w b=>aX u106 Z Z ((e.tk3 c).b b.fr) q Z) Z<|an 2 Z a<|M h fun E t h=>J a Z Z (fun w b=>bh u57 aL Z Z ((f.tk3 d).b b.fr) t) Z<|J a Z Z (fun w b=>aX u106 Z Z ((f.tk3 d).b b.fr) t Z) Z<|J a Z Z (fun w b=>aj Z Z (Eh _ D E)) Z<|an 1 Z a<|a8 a<|am ?_
  apply gl9 Z h<;>intro h
  ·refine R<|V 1 Z<|Q<|aq<|bb<|bb<|aN<|aN<|have h:=aR h g;bb<|aN ?_
   cases h
   exact au Z Z ⟨Z,a⟩
  exact cf<|aH<|aH<|am<|al<|V 3 Z<|aG<|bo (br (A (wI (G - 1)) _ _ ⟨Z,a⟩ (aW h g)) Z)
 refine aZ<|aA<|aA<|have h:=aR h g;a7<|am<|R<|V 1 Z<|Q<|aq ?_
 cases h
 exact au Z Z ⟨Z,a⟩
theorem nF {u:World} {a0 a1:Q0} {g f:Value} {r:Q0}
  (h:F.HO a0 a1=some r) (q:RP [] u X g a0) (l:RP [] u X f a1):Calls Tryz.prog 65 #[g,f] u (Ret fun v w=>St [] u w [U X v r]):=by
 refine ay 73 Tryz.func65 Z Z Z<|have a:=St.k u;ax [(0,g),(1,f)] Z ?_
 unfold F.HO at h
 refine R<|V 1 Z<|gl2<|V 1 Z<|M h fun c ak h=>dm a Z (cL  ak (q.b a.fr).rp) Z fun o w a=>V 1 Z<|M h fun b an h=>dm a Z (cL  an (l.b a.fr).rp) Z fun j w a=>V 2 Z<|gl2<|V 1 Z<|O (aD u57 Z ((q.tk3 o).b a.fr)) Z<|V 1 Z<|O (aD u57 Z ((l.tk3 j).b a.fr)) Z<|V 1 Z<|M h fun aB ao h=>bn (cV (e:=X) u57 aL Z Z Z a ao) Z fun m w a=>V 1 Z<|gl1<|R<|V 1 Z<|O (aD u57 Z ((q.tk3 o).b a.fr)) Z<|V 1 Z<|Q<|av<|ax [(6,slV3 f X.sz 0 b b),(7,m),(23,slV3 g X.sz 0 c c),(24,H ((a0.take c).length:Int)),(25,H 0)] Z ?_
 refine bf (F.I1 a0 c a1 b) (fun (s:Int×Q0) L w=>L=[(6,slV3 f X.sz 0 b b),(7,m),(23,slV3 g X.sz 0 c c),(24,H ((a0.take c).length:Int)),(25,H s.1)]/\St [] u w [U X m s.2]) ?_ (0,aB) ⟨Z,a⟩ h
 rintro aF ⟨n,aC⟩ L w aI S T h z
 try dsimp only at S
 obtain⟨rfl,a⟩:=S
 unfold F.I1 at h
 refine R<|V 1 Z<|gl1 ?_
 apply gl9 Z h<;>intro h
 ·refine gl5<|az<|av<|R<|V 1 Z<|M h fun d A h=>O (bh u57 aL Z Z ((q.tk3 o).b a.fr) A) Z<|O (aX u106 Z Z ((q.tk3 o).b a.fr) A Z) Z<|V 2 Z<|gl2<|V 1 Z<|gl1<|R<|V 1 Z<|O (aD u57 Z ((l.tk3 j).b a.fr)) Z<|V 1 Z<|Q<|av<|ax [(6,slV3 f X.sz 0 b b),(7,m),(8,H n),(9,v32 d),(10,v64 0),(23,slV3 g X.sz 0 c c),(24,H ((a0.take c).length:Int)),(25,H n),(30,slV3 f X.sz 0 b b),(31,H ((a1.take b).length:Int)),(32,H 0)] Z ?_
  refine bf (F.HV a1 b n d) (fun (s:UInt64×Int×Q0) L w=>L=[(6,slV3 f X.sz 0 b b),(7,m),(8,H n),(9,v32 d),(10,v64 s.1),(23,slV3 g X.sz 0 c c),(24,H ((a0.take c).length:Int)),(25,H n),(30,slV3 f X.sz 0 b b),(31,H ((a1.take b).length:Int)),(32,H s.2.1)]/\St [] u w [U X m s.2.2]) ?_ (0,0,aC) ⟨Z,a⟩ h
  rintro aJ ⟨x,ap,aK⟩ L w aM S ab h B
  try dsimp only at S
  obtain⟨rfl,a⟩:=S
  unfold F.HV at h
  refine R<|V 1 Z<|gl1 ?_
  apply gl9 Z h<;>intro h
  ·refine gl5<|az<|av<|R<|V 1 Z<|M h fun p C h=>O (bh u57 aL Z Z ((l.tk3 j).b a.fr) C) Z<|O (aX u106 Z Z ((l.tk3 j).b a.fr) C Z) Z<|V 2 Z<|gl2<|V 2 Z<|O (aE Z (bC u106 u103 d)) Z<|V 1 Z<|O (aE Z (bC u106 u103 p)) Z<|O (aj Z Z (js _ d.toUInt64 p.toUInt64)) Z<|V 4 Z<|M h fun y D h=>O (bh u57 aL Z Z (a.ro 0 Z) D) Z<|O (aX u106 Z Z (a.ro 0 Z) D Z) Z<|O (aE Z (bC u106 u103 y)) Z<|O (aj Z Z (cC _ (d.toUInt64*p.toUInt64) y.toUInt64)) Z<|O (aj Z Z (cC _ x ((d.toUInt64*p.toUInt64)+y.toUInt64))) Z<|bg h fun k ac h=>O (bd (v:=v64 k) (by rw[<-ac]; rfl)) Z<|gl2<|V 5 Z<|O (aE Z (ce u103 u106 k)) Z<|M h fun aN E h=>O (bh u57 aL Z Z (a.ro 0 Z) E) Z<|bm (bX (t:=k.toUInt32) aL Z Z a (i:=0) Z E Z) fun w a=>bg h fun ar ad h=>?_
   rw[ad]at a
   exact Q<|al<|V 1 Z<|O (aj Z Z (ca _ k 32)) Z<|V 1 Z<|aG<|aH<|am<|al<|V 2 Z<|aG<|bo (br (ab (aP k 32,wI (ap+1),ar) _ _ ⟨Z,a⟩ (aW h B)) Z)
  refine aZ<|aA<|aA<|have h:=aR h B;a7<|am<|al<|V 3 Z<|O (aD u57 Z ((l.tk3 j).b a.fr)) Z<|V 2 Z<|O (aE Z (ce u103 u106 x)) Z<|M h fun aO G h=>O (bh u57 aL Z Z (a.ro 0 Z) G) Z<|bm (bX (t:=x.toUInt32) aL Z Z a (i:=0) Z G Z) fun w a=>bg h fun aw ae h=>?_
  rw[ae]at a
  exact aG<|aH<|am<|al<|V 2 Z<|aG<|bo (br (T (wI (n+1),aw) _ _ ⟨Z,a⟩ (aW h z)) Z)
 refine aZ<|aA<|aA<|have h:=aR h z;a7<|am<|R<|V 1 Z<|M h fun aQ ah h=>dm a Z (dK  ah (a.ro 0 Z).rp) Z fun J w a=>V 1 Z<|Q<|aq ?_
 cases h
 replace a:=a.trunc3 (i:=0) rfl J
 exact au Z Z (a.d [0] Z Z)
theorem wl {j:World} {a0:Q0} {b:Value} (a1:UInt32) {r:Q0×UInt32}
  (h:F.K4 a0 a1=some r) (c:RP [] j X b a0):Calls Tryz.prog 94 #[b,v32 a1] j (Ret fun v w=>∃u0:Value,v=.tuple #[u0,v32 r.2]/\St [] j w [U X u0 r.1]):=by
 refine ay 34 Tryz.func94 Z Z Z<|have a:=St.k j;ax [(0,b),(1,v32 a1)] Z ?_
 unfold F.K4 at h
 refine R<|V 2 Z<|gl2<|V 1 Z<|O (aD u57 Z (c.b a.fr)) Z<|M h fun z p h=>bn (cV (e:=X) u57 aL Z Z Z a p) Z fun d w a=>V 1 Z<|gl2<|V 1 Z<|gl1<|R<|V 1 Z<|O (aD u57 Z (c.b a.fr)) Z<|V 1 Z<|bg h fun k q h=>O (bd (v:=H k) (by rw[<-q]; rfl)) Z<|Q<|av<|ax [(0,b),(1,v32 a1),(6,d),(7,v32 0),(8,H k)] Z ?_
 refine bf (F.IH a0 a1) (fun (s:UInt32×Int×Q0) L w=>L=[(0,b),(1,v32 a1),(6,d),(7,v32 s.1),(8,H s.2.1)]/\St [] j w [U X d s.2.2]) ?_ (0,k,z) ⟨Z,a⟩ h
 rintro D ⟨A,B,S⟩ L w E C u h l
 try dsimp only at C
 obtain⟨rfl,a⟩:=C
 unfold F.IH at h
 refine az<|R<|V 2 Z<|Q ?_
 apply gl9 Z h<;>intro h
 ·refine gl5<|az<|av<|al<|V 5 Z<|M h fun x f h=>O (bh u57 aL Z Z (c.b a.fr) f) Z<|O (aX u106 Z Z (c.b a.fr) f Z) Z<|V 1 Z<|M h fun m n h=>aS a Z (pd A x a1 n ) Z fun w a=>V 3 Z<|M h fun G g h=>O (bh u57 aL Z Z (a.ro 0 Z) g) Z<|bm (bX (t:=m.1) aL Z Z a (i:=0) Z g Z) fun w a=>bg h fun y o h=>?_
  rw[o]at a
  exact V 1 Z<|aG<|aH<|am<|al<|V 3 Z<|aG<|bo (br (u (m.2,wI (B - 1),y) _ _ ⟨Z,a⟩ (aW h l)) Z)
 refine aZ<|aA<|aA<|have h:=aR h l;a7<|am<|R<|V 4 Z<|Q<|aq ?_
 cases h
 exact bE Z Z Z ⟨d,Z,a.d [0] Z Z⟩
theorem sj {b:World} (a0:UInt64) {r:Q0}
  (h:F.Lr a0=some r) :Calls Tryz.prog 95 #[v64 a0] b (Ret fun v w=>St [] b w [U X v r]):=by
 refine ay 10 Tryz.func95 Z Z Z<|have a:=St.k b;ax [(0,v64 a0)] Z ?_
 unfold F.Lr at h
 refine R<|V 1 Z<|gl2<|V 1 Z<|O (aE Z (ce u103 u106 a0)) Z<|V 1 Z<|O (aj Z Z (ca _ a0 32)) Z<|O (aE Z (ce u103 u106 (aP a0 32))) Z<|bn (bJ (e:=X) (l:=([a0.toUInt32,(aP a0 32).toUInt32]:Q0)) (vs:=[v32 a0.toUInt32,v32 ((aP a0 32).toUInt32)]) u57 aL Z Z Z Z (by decide) (by decide) a) Z fun f w a=>M h fun g c h=>dm a Z (dK  c (a.ro 0 Z).rp) Z fun d w a=>V 1 Z<|Q<|aq ?_
 cases h
 replace a:=a.trunc3 (i:=0) rfl d
 exact au Z Z (a.d [0] Z Z)
theorem vL {k:World} {a0 a1:Q0} {j e f:Value} {S:Q2} (a d:Nat) (a2:Int) {r:Q0}
  (h:F.JH a0 a d a1 a2=some r) (b:St S k k [U X j a0]) (p:io j X.sz a d f) (q:RP S k X e a1):Calls Tryz.prog 147 #[f,e,H a2] k (Ret fun v w=>v=.tuple #[]/\St S k w [U X j r]):=by
 refine ay 37 Tryz.func147 Z Z Z<|ax [(0,f),(1,e),(2,H a2)] Z ?_
 unfold F.JH at h
 refine R<|V 1 Z<|gl2<|V 1 Z<|O (aD u57 Z ((b.ro 0 Z).po p)) Z<|V 1 Z<|Q<|av<|ax [(0,f),(1,e),(2,H a2),(6,v32 0),(10,H (((a0.drop a).take (d - a)).length:Int)),(11,H 0)] Z ?_
 refine bf (F.Ix a d a0 a1 a2) (fun (s:UInt32×Int×Q0) L w=>L=[(0,f),(1,e),(2,H a2),(6,v32 s.1),(10,H (((a0.drop a).take (d - a)).length:Int)),(11,H s.2.1)]/\St S k w [U X j s.2.2]) ?_ (0,0,a0) ⟨Z,b⟩ h
 rintro ae ⟨l,m,D⟩ L w T hI E h u
 try dsimp only at hI
 obtain⟨rfl,b⟩:=hI
 unfold F.Ix at h
 refine R<|V 1 Z<|gl1 ?_
 apply gl9 Z h<;>intro h
 ·refine gl5<|az<|av<|R<|V 2 Z<|gl2<|V 1 Z<|Q ?_
  refine aU (r:=T) (fun (g:UInt32) L w=>L=[(0,f),(1,e),(2,H a2),(6,v32 l),(7,H m),(8,v32 g),(10,H (((a0.drop a).take (d - a)).length:Int)),(11,H m)]/\St S k w [U X j D]) (F.Kq a d a2 l m D) ?_ ?_
  rotate_left
  ·intro n
   refine R<|V 2 Z<|O (aD u57 Z (q.b b.fr)) Z<|V 1 Z<|Q ?_
   apply gl9 Z h<;>intro h
   ·exact al<|V 2 Z<|M h fun ac x h=>O (bh u57 aL Z Z (q.b b.fr) x) Z<|O (aX u106 Z Z (q.b b.fr) x Z) Z<|V 1 Z<|Q<|aB (n ac _ _ ⟨Z,b⟩ h) Z
   exact gl5<|aB (n 0 _ _ ⟨Z,b⟩ h) Z
  rintro c L w hJ h
  try dsimp only at hJ
  obtain⟨rfl,b⟩:=hJ
  unfold F.Kq at h
  refine R<|V 4 Z<|db h fun z h=>O (aj Z Z (sF _ c a2 z)) Z<|V 1 Z<|O (aj Z Z (gw _ (cu c ((a2).toNat)) l)) Z<|M h fun ah o h=>O (bh u57 aL Z Z ((b.ro 0 Z).po p) o) Z<|bm (qc (t:=((cu c ((a2).toNat)) ||| l)) aL Z Z b (i:=0) Z p o Z) fun w b=>bg h fun G A h=>?_
  rw[A]at b
  exact Q<|al<|V 1 Z<|O (aE Z (bC u106 u103 c)) Z<|V 1 Z<|db h fun B h=>O (aj Z Z (sM _ c.toUInt64 a2 B)) Z<|O (aj Z Z (ca _ (aF c.toUInt64 ((a2).toNat)) 32)) Z<|O (aE Z (ce u103 u106 (aP (aF c.toUInt64 ((a2).toNat)) 32))) Z<|bg h fun y C h=>O (bd (v:=v32 y) (by rw[<-C]; rfl)) Z<|aG<|aH<|am<|al<|V 2 Z<|aG<|bo (br (E (y,wI (m+1),G) _ _ ⟨Z,b⟩ (aW h u)) Z)
 refine aZ<|aA<|aA<|have h:=aR h u;a7 ?_
 cases h
 exact gp Z ⟨Z,b.d [0] Z Z⟩
theorem rY {j:World} {a0 a1:Q0} {m n:Value} {r:UInt64}
  (h:F.LK a0 a1=some r) (o:RP [] j X m a0) (e:RP [] j X n a1):Calls Tryz.prog 148 #[m,n] j (Ret fun v w=>v=v64 r/\St [] j w []):=by
 refine ay 75 Tryz.func148 Z Z Z<|have a:=St.k j;ax [(0,m),(1,n)] Z ?_
 unfold F.LK at h
 refine R<|V 1 Z<|gl2<|V 1 Z<|O (aD u57 Z (e.b a.fr)) Z<|V 1 Z<|gl1<|aQ (fun w'=>St [] j w' []) (fun _=>true) bK (fun _ _ _ k=>k.2) (fun _ _ k=>k) (by kernel_rfl)<|have a:=a.drew;show lxE _ _ _ _ _ _ _ [0,1,2,3,4,5,6,7,8,9,10,11,12,13] _ _ from an 2 Z a<|M h fun G S h=>J a Z Z (fun w c=>bh u57 aL Z Z (o.b c.fr) S) Z<|J a Z Z (fun w c=>aX u106 Z Z (o.b c.fr) S Z) Z<|J a Z Z (fun w c=>aE Z (bC u106 u103 G)) Z<|J a Z Z (fun w c=>aj Z Z (cp _ G.toUInt64 32)) Z<|an 3 Z a<|M h fun ah T h=>J a Z Z (fun w c=>bh u57 aL Z Z (o.b c.fr) T) Z<|J a Z Z (fun w c=>aX u106 Z Z (o.b c.fr) T Z) Z<|J a Z Z (fun w c=>aE Z (bC u106 u103 ah)) Z<|J a Z Z (fun w c=>aj Z Z (dL _ (aF G.toUInt64 32) ah.toUInt64)) Z<|bg h fun l ak h=>J a Z Z (fun w c=>bd (v:=v64 l) (by rw[<-ak]; rfl)) Z<|a8 a<|am<|az<|aQ (fun w'=>St [] j w' []) (fun _=>true) bK (fun _ _ _ k=>k.2) (fun _ _ k=>k) (by kernel_rfl)<|have a:=a.drew;show lxE _ _ _ _ _ _ _ [0,1,2,3,4,5,6,7,8,9,10,11,12,13,14,15,16,17] _ _ from ?_
 refine an 4 Z a<|M h fun y ab h=>J a Z Z (fun w c=>bh u57 aL Z Z (e.b c.fr) ab) Z<|J a Z Z (fun w c=>aX u106 Z Z (e.b c.fr) ab Z) Z<|J a Z Z (fun w c=>aE Z (bC u106 u103 y)) Z<|db h fun al h=>J a Z Z (fun w c=>aj Z Z (jk _ l y.toUInt64 al)) Z<|an 4 Z a<|M h fun z ac h=>J a Z Z (fun w c=>bh u57 aL Z Z (e.b c.fr) ac) Z<|J a Z Z (fun w c=>aX u106 Z Z (e.b c.fr) ac Z) Z<|J a Z Z (fun w c=>aE Z (bC u106 u103 z)) Z<|db h fun ao h=>J a Z Z (fun w c=>aj Z Z (fp _ l z.toUInt64 ao)) Z<|an 2 Z a<|a8 a<|am ?_
 refine aU (r:=r) (fun (g:UInt64) L w=>L=[(7,v64 g)]/\St [] j w []) (F.L0) ?_ ?_
 rotate_left
 ·intro A
  refine av<|ax [(0,m),(1,n),(5,H (a1.length:Int)),(7,v64 (l / y.toUInt64)),(8,v64 (l%z.toUInt64))] Z ?_
  refine bf (F.Hz a0 a1) (fun (s:UInt64×UInt64) L w=>L=[(0,m),(1,n),(5,H (a1.length:Int)),(7,v64 s.1),(8,v64 s.2)]/\St [] j w []) ?_ (l / y.toUInt64,l%z.toUInt64) ⟨Z,a⟩ h
  rintro aw ⟨d,f⟩ L w ap hI ae h p
  try dsimp only at hI
  obtain⟨rfl,a⟩:=hI
  unfold F.Hz at h
  refine az ?_
  refine aU (r:=ap) (fun (g:Bool) L w=>L=[(0,m),(1,n),(5,H (a1.length:Int)),(7,v64 d),(8,v64 f),(61,N g)]/\St [] j w []) (F.H2 a1 d f) ?_ ?_
  rotate_left
  ·intro B
   refine aQ (fun w'=>St [] j w' []) (fun _=>true) bK (fun _ _ _ k=>k.2) (fun _ _ k=>k) (by kernel_rfl)<|have a:=a.drew;show lxE _ _ _ _ _ _ _ [0,1,2,3,4,5,6,7,8,9,10,11,12,13,14,15,16,17,18,19,20,21] _ _ from an 1 Z a<|J a Z Z (fun w c=>aj Z Z (wU _ d 4294967296)) Z<|an 1 Z a ?_
   cases i:(decide ((4294967296:UInt64)<=d))
   case true=>
    have h:=bH h i
    try simp only[i]
    exact a9 (b:=true) (t:=42) a Z Z Z Z Z Z<|a9 (b:=true) (t:=42) a Z Z Z Z Z Z<|a9 (b:=true) (t:=42) a Z Z Z Z Z Z<|a9 (b:=true) (t:=42) a Z Z Z Z Z Z<|a9 (b:=true) (t:=42) a Z Z Z Z Z Z<|a9 (b:=true) (t:=42) a Z Z Z Z Z Z<|a9 (b:=true) (t:=42) a Z Z Z Z Z Z<|a9 (b:=true) (t:=42) a Z Z Z Z Z Z<|a9 (b:=true) (t:=42) a Z Z Z Z Z Z<|a9 (b:=true) (t:=42) a Z Z Z Z Z Z<|a9 (b:=true) (t:=42) a Z Z Z Z Z Z<|a9 (b:=true) (t:=42) a Z Z Z Z Z Z<|a9 (b:=true) (t:=42) a Z Z Z Z Z Z<|a9 (b:=true) (t:=42) a Z Z Z Z Z Z<|a9 (b:=true) (t:=42) a Z Z Z Z Z Z<|a9 (b:=true) (t:=42) a Z Z Z Z Z Z<|a9 (b:=true) (t:=42) a Z Z Z Z Z Z<|a9 (b:=true) (t:=42) a Z Z Z Z Z Z<|an 1 Z a<|a8 a<|am<|aB (B true _ _ ⟨Z,a⟩ h) Z
   case false=>
    have h:=bI h i
    try simp only[i]
    refine bW (t:=42) a Z Z Z Z (fun w c=>ea Z) Z<|bW (t:=42) a Z Z Z Z (fun w c=>ea Z) Z<|bW (t:=42) a Z Z Z Z (fun w c=>ea Z) Z<|bW (t:=42) a Z Z Z Z (fun w c=>aj Z Z (rc _ (a1.length:Int) 2)) Z<|M h fun q C h=>bW (t:=42) a Z Z Z Z (fun w c=>bh u57 aL Z Z (e.b c.fr) C) Z<|bW (t:=42) a Z Z Z Z (fun w c=>aX u106 Z Z (e.b c.fr) C Z) Z<|bW (t:=42) a Z Z Z Z (fun w c=>aE Z (bC u106 u103 q)) Z<|bW (t:=42) a Z Z Z Z (fun w c=>aj Z Z (js _ d q.toUInt64)) Z<|bW (t:=42) a Z Z Z Z (fun w c=>ea Z) Z<|bW (t:=42) a Z Z Z Z (fun w c=>aj Z Z (cp _ f 32)) Z<|bW (t:=42) a Z Z Z Z (fun w c=>ea Z) Z<|bW (t:=42) a Z Z Z Z (fun w c=>ea Z) Z<|bW (t:=42) a Z Z Z Z (fun w c=>aj Z Z (rc _ (a1.length:Int) 2)) Z<|M h fun u D h=>bW (t:=42) a Z Z Z Z (fun w c=>bh u57 aL Z Z (o.b c.fr) D) Z<|bW (t:=42) a Z Z Z Z (fun w c=>aX u106 Z Z (o.b c.fr) D Z) Z<|bW (t:=42) a Z Z Z Z (fun w c=>aE Z (bC u106 u103 u)) Z<|bW (t:=42) a Z Z Z Z (fun w c=>aj Z Z (dL _ (aF f 32) u.toUInt64)) Z ?_
    exact bW (t:=42) a Z Z Z Z (fun w c=>aj Z Z (l9 _ (d*q.toUInt64) ((aF f 32) ||| u.toUInt64))) Z<|an 1 Z a<|a8 a<|am<|aB (B (decide (((aF f 32) ||| u.toUInt64)<(d*q.toUInt64))) _ _ ⟨Z,a⟩ h) Z
  rintro aC L w hJ h
  try dsimp only at hJ
  obtain⟨rfl,a⟩:=hJ
  unfold F.H2 at h
  apply gl9 Z h<;>intro h
  ·refine gl5<|av<|R<|V 1 Z<|O (aj Z Z (fu _ d 1)) Z<|V 1 Z<|gl2<|V 4 Z<|M h fun x E h=>O (bh u57 aL Z Z (e.b a.fr) E) Z<|O (aX u106 Z Z (e.b a.fr) E Z) Z<|O (aE Z (bC u106 u103 x)) Z<|O (aj Z Z (cC _ f x.toUInt64)) Z<|V 1 Z<|gl2<|V 1 Z<|O (aj Z Z (wU _ (f+x.toUInt64) 4294967296)) Z<|Q ?_
   apply gl9 Z h<;>intro h
   ·exact aZ<|jp Z<|aA<|have h:=aR h p;a7<|am<|aB (A (d - 1) _ _ ⟨Z,a⟩ h) Z
   exact cf<|aH<|bo (br (ae (d - 1,f+x.toUInt64) _ _ ⟨Z,a⟩ (aW h p)) Z)
  exact aZ<|aA<|aA<|have h:=aR h p;a7<|am<|aB (A d _ _ ⟨Z,a⟩ h) Z
 rintro aG L w hJ h
 try dsimp only at hJ
 obtain⟨rfl,a⟩:=hJ
 unfold F.L0 at h
 refine R<|V 2 Z<|Q<|aq ?_
 cases h
 exact au Z Z ⟨Z,a⟩
theorem wm {c:World} {a0 a1:Q0} {d e:Value} {r:Bool}
  (h:F.Iz a0 a1=some r) (f:RP [] c X d a0) (j:RP [] c X e a1):Calls Tryz.prog 149 #[d,e] c (Ret fun v w=>v=N r/\St [] c w []):=by
 refine ay 31 Tryz.func149 Z Z Z<|have a:=St.k c;ax [(0,d),(1,e)] Z ?_
 unfold F.Iz at h
 refine R<|V 1 Z<|gl1<|R<|V 1 Z<|O (aD u57 Z (f.b a.fr)) Z<|V 1 Z<|bg h fun k p h=>O (bd (v:=H k) (by rw[<-p]; rfl)) Z<|Q<|av<|ax [(0,d),(1,e),(5,H k)] Z ?_
 refine bf (F.Hq a0 a1) (fun (s:Int) L w=>L=[(0,d),(1,e),(5,H s)]/\St [] c w []) ?_ k ⟨Z,a⟩ h
 rintro B t L w C u q h g
 try dsimp only at u
 obtain⟨rfl,a⟩:=u
 unfold F.Hq at h
 refine az<|R<|V 2 Z<|Q ?_
 apply gl9 Z h<;>intro h
 ·refine gl5<|az<|av<|az<|aQ (fun w'=>St [] c w' []) (fun _=>true) bK (fun _ _ _ i=>i.2) (fun _ _ i=>i) (by kernel_rfl)<|have a:=a.drew;show lxE _ _ _ _ _ _ _ [0,1,2,3,4,5,6,7,8] _ _ from an 2 Z a<|M h fun x l h=>J a Z Z (fun w b=>bh u57 aL Z Z (f.b b.fr) l) Z<|J a Z Z (fun w b=>aX u106 Z Z (f.b b.fr) l Z) Z<|an 2 Z a<|M h fun y m h=>J a Z Z (fun w b=>bh u57 aL Z Z (j.b b.fr) m) Z<|J a Z Z (fun w b=>aX u106 Z Z (j.b b.fr) m Z) Z<|J a Z Z (fun w b=>aj Z Z (oN _ x y)) Z<|a8 a<|am ?_
  apply gl9 Z h<;>intro h
  ·refine az<|aQ (fun w'=>St [] c w' []) (fun _=>true) bK (fun _ _ _ i=>i.2) (fun _ _ i=>i) (by kernel_rfl)<|have a:=a.drew;show lxE _ _ _ _ _ _ _ [0,1,2,3,4,5,6,7,8,9] _ _ from an 2 Z a<|M h fun z n h=>J a Z Z (fun w b=>bh u57 aL Z Z (f.b b.fr) n) Z<|J a Z Z (fun w b=>aX u106 Z Z (f.b b.fr) n Z) Z<|an 2 Z a<|M h fun A o h=>J a Z Z (fun w b=>bh u57 aL Z Z (j.b b.fr) o) Z<|J a Z Z (fun w b=>aX u106 Z Z (j.b b.fr) o Z) Z<|J a Z Z (fun w b=>aj Z Z (rV _ z A)) Z<|an 1 Z a<|a8 a<|am<|aq<|bb<|aN<|aN<|have h:=aR h g;bb<|aN ?_
   cases h
   exact au Z Z ⟨Z,a⟩
  exact cf<|aH<|am<|al<|V 3 Z<|aG<|bo (br (q (wI (t - 1)) _ _ ⟨Z,a⟩ (aW h g)) Z)
 refine aZ<|aA<|aA<|have h:=aR h g;a7<|am<|R<|V 1 Z<|Q<|aq ?_
 cases h
 exact au Z Z ⟨Z,a⟩
theorem qz {k:World} {a0 a1:Q0} {f d e:Value} {S:Q2} (b c:Nat) {r:UInt32×Q0}
  (h:F.HJ a0 b c a1=some r) (a:St S k k [U X f a0]) (j:io f X.sz b c e) (p:RP S k X d a1):Calls Tryz.prog 150 #[e,d] k (Ret fun v w=>v=v32 r.1/\St S k w [U X f r.2]):=by
 refine ay 36 Tryz.func150 Z Z Z<|ax [(0,e),(1,d)] Z ?_
 unfold F.HJ at h
 refine R<|V 1 Z<|gl2<|V 1 Z<|gl1<|R<|V 1 Z<|O (aD u57 Z ((a.ro 0 Z).po j)) Z<|V 1 Z<|Q<|av<|ax [(0,e),(1,d),(5,v32 0),(9,H (((a0.drop b).take (c - b)).length:Int)),(10,H 0)] Z ?_
 refine bf (F.IM b c a0 a1) (fun (s:UInt32×Int×Q0) L w=>L=[(0,e),(1,d),(5,v32 s.1),(9,H (((a0.drop b).take (c - b)).length:Int)),(10,H s.2.1)]/\St S k w [U X f s.2.2]) ?_ (0,0,a0) ⟨Z,a⟩ h
 rintro ae ⟨q,l,B⟩ L w T hI C h u
 try dsimp only at hI
 obtain⟨rfl,a⟩:=hI
 unfold F.IM at h
 refine R<|V 1 Z<|gl1 ?_
 apply gl9 Z h<;>intro h
 ·refine gl5<|az<|av<|R<|V 2 Z<|gl2<|V 1 Z<|Q ?_
  refine aU (r:=T) (fun (g:UInt32) L w=>L=[(0,e),(1,d),(5,v32 q),(6,H l),(7,v32 g),(9,H (((a0.drop b).take (c - b)).length:Int)),(10,H l)]/\St S k w [U X f B]) (F.Jg b c q l B) ?_ ?_
  rotate_left
  ·intro m
   refine R<|V 2 Z<|O (aD u57 Z (p.b a.fr)) Z<|V 1 Z<|Q ?_
   apply gl9 Z h<;>intro h
   ·exact al<|V 2 Z<|M h fun ac x h=>O (bh u57 aL Z Z (p.b a.fr) x) Z<|O (aX u106 Z Z (p.b a.fr) x Z) Z<|V 1 Z<|Q<|aB (m ac _ _ ⟨Z,a⟩ h) Z
   exact gl5<|aB (m 0 _ _ ⟨Z,a⟩ h) Z
  rintro D L w hJ h
  try dsimp only at hJ
  obtain⟨rfl,a⟩:=hJ
  unfold F.Jg at h
  refine al<|V 4 Z<|M h fun E n h=>O (bh u57 aL Z Z ((a.ro 0 Z).po j) n) Z<|O (aX u106 Z Z ((a.ro 0 Z).po j) n Z) Z<|V 2 Z<|M h fun y z h=>aS a Z (pb E D q z ) Z fun w a=>V 3 Z<|M h fun ah o h=>O (bh u57 aL Z Z ((a.ro 0 Z).po j) o) Z<|bm (qc (t:=y.1) aL Z Z a (i:=0) Z j o Z) fun w a=>bg h fun G A h=>?_
  rw[A]at a
  exact V 1 Z<|aG<|aH<|am<|al<|V 2 Z<|aG<|bo (br (C (y.2,wI (l+1),G) _ _ ⟨Z,a⟩ (aW h u)) Z)
 refine aZ<|aA<|aA<|have h:=aR h u;a7<|am<|R<|V 2 Z<|Q<|aq ?_
 cases h
 exact au Z Z ⟨Z,a.d [0] Z Z⟩
theorem qv {j:World} {a0:Q0} {b:Value} {S:Q2} (a1:Int) {r:Q0}
  (h:F.KJ a0 a1=some r) (a:St S j j [U X b a0]):Calls Tryz.prog 151 #[b,H a1] j (Ret fun v w=>v=.tuple #[]/\St S j w [U X b r]):=by
 refine ay 38 Tryz.func151 Z Z Z<|ax [(0,b),(1,H a1)] Z ?_
 unfold F.KJ at h
 refine R<|V 1 Z<|O (aD u57 Z (a.ro 0 Z)) Z<|V 1 Z<|Q<|av<|ax [(0,b),(1,H a1),(7,H (a0.length:Int)),(8,H 0)] Z ?_
 refine bf (F.Ja a0 a1) (fun (s:Int×Q0) L w=>L=[(0,b),(1,H a1),(7,H (a0.length:Int)),(8,H s.1)]/\St S j w [U X b s.2]) ?_ (0,a0) ⟨Z,a⟩ h
 rintro E ⟨d,u⟩ L w B C y h k
 try dsimp only at C
 obtain⟨rfl,a⟩:=C
 unfold F.Ja at h
 refine R<|V 1 Z<|gl1 ?_
 apply gl9 Z h<;>intro h
 ·refine gl5<|az<|av<|R<|V 2 Z<|gl2<|V 2 Z<|M h fun l m h=>O (bh u57 aL Z Z (a.ro 0 Z) m) Z<|O (aX u106 Z Z (a.ro 0 Z) m Z) Z<|O (aE Z (bC u106 u103 l)) Z<|V 1 Z<|Q ?_
  refine aU (r:=B) (fun (g:UInt64) L w=>L=[(0,b),(1,H a1),(4,H d),(5,v64 g),(7,H (a0.length:Int)),(8,H d)]/\St S j w [U X b u]) (F.Jp a1 d u) ?_ ?_
  rotate_left
  ·intro e
   refine R<|V 3 Z<|O (aD u57 Z (a.ro 0 Z)) Z<|V 1 Z<|Q ?_
   apply gl9 Z h<;>intro h
   ·exact al<|V 4 Z<|M h fun n o h=>O (bh u57 aL Z Z (a.ro 0 Z) o) Z<|O (aX u106 Z Z (a.ro 0 Z) o Z) Z<|O (aE Z (bC u106 u103 n)) Z<|O (aj Z Z (cp _ n.toUInt64 32)) Z<|O (aj Z Z (dL _ l.toUInt64 (aF n.toUInt64 32))) Z<|bg h fun x z h=>O (bd (v:=v64 x) (by rw[<-z]; rfl)) Z<|Q<|aB (e x _ _ ⟨Z,a⟩ h) Z
   exact gl5<|aB (e l.toUInt64 _ _ ⟨Z,a⟩ h) Z
  rintro c L w D h
  try dsimp only at D
  obtain⟨rfl,a⟩:=D
  unfold F.Jp at h
  refine al<|V 4 Z<|db h fun p h=>O (aj Z Z (nW _ c a1 p)) Z<|O (aE Z (ce u103 u106 (aP c ((a1).toNat)))) Z<|M h fun G f h=>O (bh u57 aL Z Z (a.ro 0 Z) f) Z<|bm (bX (t:=((aP c ((a1).toNat)).toUInt32)) aL Z Z a (i:=0) Z f Z) fun w a=>bg h fun A q h=>?_
  rw[q]at a
  exact aG<|aH<|am<|al<|V 2 Z<|aG<|bo (br (y (wI (d+1),A) _ _ ⟨Z,a⟩ (aW h k)) Z)
 refine aZ<|aA<|aA<|have h:=aR h k;a7 ?_
 cases h
 exact gp Z ⟨Z,a.d [0] Z Z⟩
theorem yD {u:World} {a0 a1:Q0} {ap ar:Value} {r:Q0×(Q0×Nat)}
  (h:F.LC a0 a1=some r) (au:RP [] u X ap a0) (y:RP [] u X ar a1):Calls Tryz.prog 96 #[ap,ar] u (Ret fun v w=>∃u0 u1:Value,v=.tuple #[u0,slV u1 X.sz 0 r.2.2]/\r.2.2<=r.2.1.length/\St [] u w [U X u0 r.1,U X u1 r.2.1]):=by
 refine ay 125 Tryz.func96 Z Z Z<|have a:=St.k u;ax [(0,ap),(1,ar)] Z ?_
 unfold F.LC at h
 refine R<|V 2 Z<|gl2<|V 2 Z<|O (aD u57 Z (y.b a.fr)) Z<|V 1 Z<|M h fun bw aw h=>O (bh u57 aL Z Z (y.b a.fr) aw) Z<|O (aX u106 Z Z (y.b a.fr) aw Z) Z<|M h fun l ba h=>aS a Z (jN bw ba ) Z fun w a=>V 1 Z<|gl2<|V 1 Z<|O (aD u57 Z (y.b a.fr)) Z<|M h fun a6 bb h=>bn (cV (e:=X) u57 aL Z Z Z a bb) Z fun f w a=>V 1 Z<|gl2<|V 3 Z<|have n:=a.pick (os':=[U X f a6]++[]) [0] (by decide) Z;M h fun b bc h=>aJ Z (vL 0 a6.length l bc n.f (a.ro 0 Z).whole (y.f (W Z) n)) Z ?_
 rintro _ w ⟨rfl,p⟩
 have a:=n.g p
 refine gl2<|V 1 Z<|O (aD u57 Z (au.b a.fr)) Z<|V 1 Z<|M h fun a9 be h=>bn (cV (e:=X) u57 aL Z Z Z a be) Z fun g w a=>V 1 Z<|gl2<|V 3 Z<|have n:=a.pick (os':=[U X g a9]++[U X f b]) [0,1] (by decide) Z;M h fun bi aC h=>aJ Z (vL 0 a9.length l aC n.f (a.ro 0 Z).whole (au.f (W Z) n)) Z ?_
 rintro _ w ⟨rfl,p⟩
 have a:=n.g p
 refine gl2<|V 1 Z<|O (aD u57 Z (a.ro 1 Z)) Z<|V 1 Z<|gl2<|V 1 Z<|O (aD u57 Z (au.b a.fr)) Z<|V 3 Z<|M h fun bj aF h=>bn (cV (e:=X) u57 aL Z Z Z a aF) Z fun c w a=>V 1 Z<|gl2<|V 2 Z<|M h fun bk aI h=>bn (cV (e:=X) u57 aL Z Z Z a aI) Z fun d w a=>V 1 Z<|gl1<|R<|V 1 Z<|O (aD u57 Z (a.ro 1 Z)) Z<|V 1 Z<|bg h fun A aK h=>O (bd (v:=H A) (by rw[<-aK]; rfl)) Z<|Q<|av<|ax [(6,H l),(7,f),(8,g),(9,H (b.length:Int)),(10,c),(11,d),(12,H A)] Z ?_
 refine bf (F.Ii l b) (fun (s:Int×Q0×Q0×Q0) L w=>L=[(6,H l),(7,f),(8,g),(9,H (b.length:Int)),(10,c),(11,d),(12,H s.1)]/\St [] u w [U X f b,U X g s.2.1,U X c s.2.2.1,U X d s.2.2.2]) ?_ (A,bi,bj,bk) ⟨Z,(a.d [3,2,1,0] Z Z)⟩ h
 rintro bx ⟨j,o,m,B⟩ L w bz z aM h G
 try dsimp only at z
 obtain⟨rfl,a⟩:=z
 unfold F.Ii at h
 refine az<|R<|V 2 Z<|Q ?_
 apply gl9 Z h<;>intro h
 ·refine gl5<|az<|av<|Ab<|R<|V 6 Z<|M h fun bA S h=>O (ze u57 aL Z Z Z (a.ro 1 Z) S) Z<|V 1 Z<|M h fun aB aN h=>aS a Z (rY  aN ((a.ro 1 Z).g_sl S).rp (a.ro 0 Z).rp) Z fun w a=>V 1 Z<|gl1<|zD<|am<|az<|av<|ax [(6,H l),(7,f),(8,g),(9,H (b.length:Int)),(10,c),(11,d),(12,H j),(13,v64 aB)] Z ?_
  refine bf (F.IB b j o m) (fun (s:UInt64×Q0) L w=>L=[(6,H l),(7,f),(8,g),(9,H (b.length:Int)),(10,c),(11,d),(12,H j),(13,v64 s.1)]/\St [] u w [U X f b,U X g o,U X c m,U X d s.2]) ?_ (aB,B) ⟨Z,a⟩ h
  rintro bB ⟨k,bl⟩ L w bD z aO h T
  try dsimp only at z
  obtain⟨rfl,a⟩:=z
  unfold F.IB at h
  refine av<|R<|V 1 Z<|gl1<|R<|V 1 Z<|O (aD u57 Z (a.ro 0 Z)) Z<|V 1 Z<|Q<|av<|ax [(6,H l),(7,f),(8,g),(9,H (b.length:Int)),(10,c),(11,d),(12,H j),(13,v64 k),(14,v64 0),(66,f),(67,H (b.length:Int)),(68,H 0)] Z ?_
  refine bf (F.HC b j o m k) (fun (s:UInt64×Int×Q0) L w=>L=[(6,H l),(7,f),(8,g),(9,H (b.length:Int)),(10,c),(11,d),(12,H j),(13,v64 k),(14,v64 s.1),(66,f),(67,H (b.length:Int)),(68,H s.2.1)]/\St [] u w [U X f b,U X g o,U X c m,U X d s.2.2]) ?_ (0,0,bl) ⟨Z,a⟩ h
  rintro bF ⟨C,bp,bG⟩ L w bH z aT h ab
  try dsimp only at z
  obtain⟨rfl,a⟩:=z
  unfold F.HC at h
  refine R<|V 1 Z<|gl1 ?_
  apply gl9 Z h<;>intro h
  ·refine gl5<|az<|av<|R<|V 1 Z<|M h fun D ac h=>O (bh u57 aL Z Z (a.ro 0 Z) ac) Z<|O (aX u106 Z Z (a.ro 0 Z) ac Z) Z<|V 2 Z<|gl2<|V 3 Z<|O (aE Z (bC u106 u103 D)) Z<|O (aj Z Z (js _ k D.toUInt64)) Z<|O (aj Z Z (cC _ C (k*D.toUInt64))) Z<|bg h fun q aU h=>O (bd (v:=v64 q) (by rw[<-aU]; rfl)) Z<|gl2<|V 3 Z<|O (aE Z (ce u103 u106 q)) Z<|M h fun bI ad h=>O (bh u57 aL Z Z (a.ro 3 Z) ad) Z<|bm (bX (t:=q.toUInt32) aL Z Z a (i:=3) Z ad Z) fun w a=>bg h fun bq aV h=>?_
   rw[aV]at a
   exact Q<|al<|V 1 Z<|O (aj Z Z (ca _ q 32)) Z<|V 1 Z<|aG<|aH<|am<|al<|V 2 Z<|aG<|bo (br (aT (aP q 32,wI (bp+1),bq) _ _ ⟨Z,a⟩ (aW h ab)) Z)
  refine aZ<|aA<|aA<|have h:=aR h ab;a7<|am<|R<|V 3 Z<|O (aE Z (ce u103 u106 C)) Z<|M h fun bJ ae h=>O (bh u57 aL Z Z (a.ro 3 Z) ae) Z<|bm (bX (t:=C.toUInt32) aL Z Z a (i:=3) Z ae Z) fun w a=>bg h fun E aY h=>?_
  rw[aY]at a
  refine gl1<|R<|V 6 Z<|M h fun bL ah h=>O (ze u57 aL Z Z Z (a.ro 1 Z) ah) Z<|V 1 Z<|M h fun bM a2 h=>aS a Z (wm  a2 ((a.ro 1 Z).g_sl ah).rp (a.ro 3 Z).rp) Z fun w a=>V 1 Z<|Q ?_
  apply gl9 Z h<;>intro h
  ·refine aZ<|aA<|jp Z<|aA<|have h:=aR h T;a7<|am<|R<|V 6 Z<|M h fun bN x h=>O (ze u57 aL Z Z Z (a.ro 1 Z) x) Z<|V 1 Z<|have n:=a.pick (os':=[U X g o]++[U X f b,U X c m,U X d E]) [1,0,2,3] (by decide) Z;M h fun bs a3 h=>aJ Z (qz ((j:Int).toNat) ((wI ((wI (j+(b.length:Int)))+1):Int).toNat) a3 n.f ((a.ro 1 Z).part (by have:=(cH x).1; omega) (cH x).1.2.2) (n.giveO 2 Z)) Z ?_
   rintro _ w ⟨rfl,p⟩
   have a:=n.g p
   refine Q<|al<|V 3 Z<|O (aE Z (ce u103 u106 k)) Z<|M h fun bO ak h=>O (bh u57 aL Z Z (a.ro 2 Z) ak) Z<|bm (bX (t:=k.toUInt32) aL Z Z a (i:=2) Z ak Z) fun w a=>bg h fun bt a4 h=>?_
   rw[a4]at a
   exact aG<|BR<|aH<|am<|al<|V 3 Z<|aG<|bo (br (aM (wI (j - 1),bs.2,bt,E) _ _ ⟨Z,(a.d [1,0,2,3] Z Z)⟩ (aW h G)) Z)
  exact gl5<|al<|V 1 Z<|O (aj Z Z (fu _ k 1)) Z<|V 1 Z<|aG<|aH<|bo (br (aO (k - 1,E) _ _ ⟨Z,a⟩ (aW h T)) Z)
 refine aZ<|aA<|aA<|have h:=aR h G;a7<|am<|R<|V 2 Z<|have n:=a.pick (os':=[U X g o]++[U X f b,U X c m,U X d B]) [1,0,2,3] (by decide) Z;M h fun bu a5 h=>aJ Z (qv l a5 n.f ) Z ?_
 rintro _ w ⟨rfl,p⟩
 have a:=n.g p
 refine gl1<|aQ (fun w'=>St [] u w' [U X g bu,U X f b,U X c m,U X d B]) (fun _=>true) bK (fun _ _ _ hf=>hf.2) (fun _ _ hf=>hf) (by kernel_rfl)<|have a:=a.drew;show lxE _ _ _ _ _ _ _ [0,1,2,3,4,5] _ _ from an 3 Z a<|db h fun ao h=>J a Z Z (fun w hF=>mz u57 aL Z Z (hF.ro 0 Z) (ox ao)) Z<|an 2 Z a<|a8 a<|am<|aq ?_
 cases h
 exact bE Z Z Z ⟨c,g,Z,ao.2,a.d [2,0] Z Z⟩
theorem kB {f:World} {a0 a1:Q0} {g j:Value} {r:Q0×Q0×Int}
  (h:F.IK a0 a1=some r) (d:RP [] f X g a0) (b:RP [] f X j a1):Calls Tryz.prog 46 #[g,j] f (Ret fun v w=>∃u0 u1:Value,v=.tuple #[u0,u1,H r.2.2]/\St [] f w [U X u0 r.1,U X u1 r.2.1]):=by
 refine ay 55 Tryz.func46 Z Z Z<|have a:=St.k f;ax [(0,g),(1,j)] Z ?_
 unfold F.IK at h
 refine R<|V 3 Z<|gl2<|V 1 Z<|M h fun aj C h=>dm a Z (cL  C (d.b a.fr).rp) Z fun e w a=>V 1 Z<|M h fun ak D h=>dm a Z (cL  D (b.b a.fr).rp) Z fun c w a=>V 2 Z<|gl1<|av<|R<|V 1 Z<|O (aD u57 Z ((b.tk3 c).b a.fr)) Z<|V 2 Z<|Q ?_
 apply gl9 Z h<;>intro h
 ·refine R<|V 3 Z<|Q<|aq<|bb<|aN ?_
  cases h
  exact dH Z Z Z Z ⟨Q3,Q3,Z,((a.nil X).nil X).d [1,0] Z Z⟩
 refine R<|V 2 Z<|M h fun al E h=>aS a Z (du  E (d.b a.fr).rp (b.b a.fr).rp) Z fun w a=>V 2 Z<|Q ?_
 apply gl9 Z h<;>intro h
 ·refine R<|V 1 Z<|M h fun an G h=>bn (yW u58 u57 aL Z Z Z a ((d.tk3 e).b a.fr) G) Z fun ad w a=>V 3 Z<|Q<|aq<|bb<|aN ?_
  cases h
  exact dH Z Z Z Z ⟨Q3,ad,Z,(a.nil X).d [0,1] Z Z⟩
 refine R<|V 1 Z<|O (aD u57 Z ((b.tk3 c).b a.fr)) Z<|V 2 Z<|Q ?_
 apply gl9 Z h<;>intro h
 ·refine R<|V 2 Z<|M h fun ae k h=>O (bh u57 aL Z Z ((b.tk3 c).b a.fr) k) Z<|O (aX u106 Z Z ((b.tk3 c).b a.fr) k Z) Z<|M h fun l p h=>cU a Z (wl ae p ((d.tk3 e).b a.fr).rp) Z fun L w a=>V 5 Z<|gl2<|V 1 Z<|M h fun m q h=>dm a Z (dK  q (a.ro 0 Z).rp) Z fun s w a=>V 1 Z<|O (aE Z (bC u106 u103 l.2)) Z<|M h fun J t h=>aM a Z (sj l.2.toUInt64 t ) Z fun S w a=>V 3 Z<|Q<|aq<|bb<|aN ?_
  cases h
  replace a:=a.trunc3 (i:=1) rfl s
  exact dH Z Z Z Z ⟨slV3 L X.sz 0 m m,S,Z,a.d [1,0] Z Z⟩
 refine cf<|aH<|am<|R<|V 2 Z<|M h fun T u h=>aJ Z (yD  u ((d.tk3 e).b a.fr).rp ((b.tk3 c).b a.fr).rp) Z ?_
 rintro _ w ⟨ab,ac,rfl,x,ah⟩
 have a:=a.e ah
 refine V 5 Z<|gl2<|V 1 Z<|M h fun n y h=>dm a Z (dK  y (a.ro 0 Z).rp) Z fun z w a=>V 1 Z ?_
 replace a:=a.trunc (i:=1) rfl x
 refine M h fun o A h=>dm a Z (dK  A (a.ro 1 Z).rp) Z fun B w a=>V 3 Z<|Q<|aq ?_
 cases h
 replace a:=a.trunc3 (i:=0) rfl z
 replace a:=a.trunc3 (i:=1) rfl B
 exact dH Z Z Z Z ⟨slV3 ab X.sz 0 n n,slV3 (slV ac X.sz 0 T.2.2) X.sz 0 o o,Z,a.d [0,1] Z Z⟩
theorem lh {c:World} {a0 a1:Q0} {d f:Value} {r:Q0×Bool}
  (h:F.HM a0 a1=some r) (b:RP [] c X d a0) (g:RP [] c X f a1):Calls Tryz.prog 131 #[d,f] c (Ret fun v w=>∃u0:Value,v=.tuple #[u0,N r.2]/\St [] c w [U X u0 r.1]):=by
 refine ay 28 Tryz.func131 Z Z Z<|have a:=St.k c;ax [(0,d),(1,f)] Z ?_
 unfold F.HM at h
 refine R<|V 2 Z<|gl1<|R<|V 2 Z<|M h fun C q h=>aS a Z (du  q (b.b a.fr).rp (g.b a.fr).rp) Z fun w a=>V 1 Z<|Q ?_
 apply gl9 Z h<;>intro h
 ·refine R<|V 2 Z<|gl8 ?_
  cases h
  exact bE Z Z Z ⟨Q3,Z,(a.nil X).d [0] Z Z⟩
 refine gl6<|V 1 Z<|M h fun D s h=>dm a Z (cL  s (b.b a.fr).rp) Z fun j w a=>V 1 Z<|M h fun E t h=>dm a Z (cL  t (g.b a.fr).rp) Z fun u w a=>V 2 Z<|gl2<|V 1 Z<|O (aD u57 Z ((b.tk3 j).b a.fr)) Z<|M h fun G x h=>bn (cV (e:=X) u57 aL Z Z Z a x) Z fun o w a=>V 1 Z<|gl2<|V 2 Z<|bn (ry (e:=X) u57 aL Z Z Z a (i:=0) Z ((b.tk3 j).b a.fr)) Z ?_
 rintro v_q w ⟨hv_q,a⟩
 subst v_q
 obtain⟨p,y,h⟩:=fD h
 rw[y]at a
 refine gl2<|V 2 Z<|have z:=a.pick (os':=[U X o p]++[]) [0] (by decide) Z;M h fun B l h=>aJ Z (qz 0 p.length l z.f (a.ro 0 Z).whole ((g.tk3 u).f (W Z) z)) Z ?_
 rintro _ w ⟨rfl,A⟩
 have a:=z.g A
 refine gl2<|V 1 Z<|M h fun k m h=>dm a Z (dK  m (a.ro 0 Z).rp) Z fun n w a=>V 2 Z<|Q<|aq ?_
 cases h
 replace a:=a.trunc3 (i:=0) rfl n
 exact bE Z Z Z ⟨slV3 o X.sz 0 k k,Z,a.d [0] Z Z⟩
theorem kZ {k:World} {a0 a1:Q0} {u x:Value} {r:Q0}
  (h:F.HK a0 a1=some r) (A:RP [] k X u a0) (B:RP [] k X x a1):Calls Tryz.prog 143 #[u,x] k (Ret fun v w=>St [] k w [U X v r]):=by
 refine ay 64 Tryz.func143 Z Z Z<|have a:=St.k k;ax [(0,u),(1,x)] Z ?_
 unfold F.HK at h
 refine R<|V 1 Z<|gl2<|V 1 Z<|M h fun l aF h=>dm a Z (cL  aF (A.b a.fr).rp) Z fun y w a=>V 1 Z<|M h fun m aI h=>dm a Z (cL  aI (B.b a.fr).rp) Z fun z w a=>V 2 Z<|Q ?_
 refine aU (r:=r) (fun (g:Q0×Q0) L w=>∃(b:Value) (c:Value),L=[(5,b),(6,c)]/\RP [] k X b g.1/\RP [] k X c g.2/\St [] k w []) (F.Kr) ?_ ?_
 rotate_left
 ·intro C
  refine R<|V 1 Z<|O (aD u57 Z ((A.tk3 y).b a.fr)) Z<|V 1 Z<|O (aD u57 Z ((B.tk3 z).b a.fr)) Z<|V 1 Z<|Q ?_
  apply gl9 Z h<;>intro h
  ·exact al<|V 4 Z<|Q<|aB (C (a1.take m,a0.take l) _ _ ⟨slV3 x X.sz 0 m m,slV3 u X.sz 0 l l,Z,(B.tk3 z),(A.tk3 y),a⟩ h) Z
  exact gl5<|aB (C (a0.take l,a1.take m) _ _ ⟨slV3 u X.sz 0 l l,slV3 x X.sz 0 m m,Z,(A.tk3 y),(B.tk3 z),a⟩ h) Z
 rintro⟨D,aN⟩ L w hJ h
 try dsimp only at hJ
 obtain⟨b,c,rfl,d,n,a⟩:=hJ
 unfold F.Kr at h
 refine R<|V 1 Z<|O (aD u57 Z (d.b a.fr)) Z<|V 1 Z<|M h fun aJ ak h=>bn (cV (e:=X) u57 aL Z Z Z a ak) Z fun f w a=>V 1 Z<|gl2<|V 1 Z<|gl1<|R<|V 1 Z<|O (aD u57 Z (d.b a.fr)) Z<|V 1 Z<|Q<|av<|ax [(5,b),(6,c),(7,f),(8,v64 0),(26,b),(27,H (D.length:Int)),(28,H 0)] Z ?_
 refine bf (F.If D aN) (fun (s:UInt64×Int×Q0) L w=>L=[(5,b),(6,c),(7,f),(8,v64 s.1),(26,b),(27,H (D.length:Int)),(28,H s.2.1)]/\St [] k w [U X f s.2.2]) ?_ (0,0,aJ) ⟨Z,a⟩ h
 rintro aQ ⟨j,o,ae⟩ L w aK hI an h E
 try dsimp only at hI
 obtain⟨rfl,a⟩:=hI
 unfold F.If at h
 refine R<|V 1 Z<|gl1 ?_
 apply gl9 Z h<;>intro h
 ·refine gl5<|az<|av<|R<|V 1 Z<|M h fun p G h=>O (bh u57 aL Z Z (d.b a.fr) G) Z<|O (aX u106 Z Z (d.b a.fr) G Z) Z<|V 2 Z<|gl2<|V 2 Z<|O (aE Z (bC u106 u103 p)) Z<|O (aj Z Z (cC _ j p.toUInt64)) Z<|V 1 Z<|Q ?_
  refine aU (r:=aK) (fun (g:UInt64) L w=>L=[(5,b),(6,c),(7,f),(8,v64 g),(9,H o),(26,b),(27,H (D.length:Int)),(28,H o)]/\St [] k w [U X f ae]) (F.KB o ae) ?_ ?_
  rotate_left
  ·intro S
   refine R<|V 2 Z<|O (aD u57 Z (n.b a.fr)) Z<|V 1 Z<|Q ?_
   apply gl9 Z h<;>intro h
   ·exact al<|V 3 Z<|M h fun ah T h=>O (bh u57 aL Z Z (n.b a.fr) T) Z<|O (aX u106 Z Z (n.b a.fr) T Z) Z<|O (aE Z (bC u106 u103 ah)) Z<|O (aj Z Z (cC _ (j+p.toUInt64) ah.toUInt64)) Z<|bg h fun J ao h=>O (bd (v:=v64 J) (by rw[<-ao]; rfl)) Z<|Q<|aB (S J _ _ ⟨Z,a⟩ h) Z
   exact gl5<|aB (S (j+p.toUInt64) _ _ ⟨Z,a⟩ h) Z
  rintro q L w hJ h
  try dsimp only at hJ
  obtain⟨rfl,a⟩:=hJ
  unfold F.KB at h
  refine R<|V 3 Z<|O (aE Z (ce u103 u106 q)) Z<|M h fun aS ab h=>O (bh u57 aL Z Z (a.ro 0 Z) ab) Z<|bm (bX (t:=q.toUInt32) aL Z Z a (i:=0) Z ab Z) fun w a=>bg h fun aM ap h=>?_
  rw[ap]at a
  exact Q<|al<|V 1 Z<|O (aj Z Z (ca _ q 32)) Z<|V 1 Z<|aG<|aH<|am<|al<|V 2 Z<|aG<|bo (br (an (aP q 32,wI (o+1),aM) _ _ ⟨Z,a⟩ (aW h E)) Z)
 refine aZ<|aA<|aA<|have h:=aR h E;a7<|am<|R<|V 2 Z<|O (aD u57 Z (d.b a.fr)) Z<|V 1 Z<|O (aE Z (ce u103 u106 j)) Z<|M h fun aT ac h=>O (bh u57 aL Z Z (a.ro 0 Z) ac) Z<|bm (bX (t:=j.toUInt32) aL Z Z a (i:=0) Z ac Z) fun w a=>bg h fun aV ar h=>?_
 rw[ar]at a
 refine gl2<|V 1 Z<|M h fun aY aw h=>dm a Z (dK  aw (a.ro 0 Z).rp) Z fun aC w a=>V 1 Z<|Q<|aq ?_
 cases h
 replace a:=a.trunc3 (i:=0) rfl aC
 exact au Z Z (a.d [0] Z Z)
end Go.Proofs
