import Derived.Test.YtmegjloifgfldaaGreatDoorRW0
import Derived.Test.YtmegjloifgfldaaGreatDoorGkFman
import Derived.Test.YtmegjloifgfldaaGreatDoorRWnata
set_option linter.unusedVariables false
set_option linter.unusedSimpArgs false
set_option linter.unusedSectionVars false
set_option maxRecDepth 4000
namespace Go.Proofs
open Go Go.RowKit Go.Gk
open Go.Gk renaming aa -> V, af -> M, ag -> O, e32 -> X, gl3 -> Q, gl4 -> R, own -> U, vB -> N, vI -> H
open Nat renaming le_of_ble_eq_true -> W
theorem fZ {i:World} {a0:Q0} {d:Value} (a1:Int) {r:Bool}
  (h:F.GP a0 a1=some r) (e:RP [] i X d a0):Calls Tryz.prog 66 #[d,H a1] i (Ret fun v w=>v=N r/\St [] i w []):=by
 refine ay 26 Tryz.func66 Z Z Z<|have c:=St.k i;ax [(0,d),(1,H a1)] Z ?_
 unfold F.GP at h
 refine R<|V 1 Z<|gl2<|V 3 Z ?_
 cases a:(decide ((0:Int)<=a1))
 case true=>
  have h:=bH h a
  try simp only[a]
  refine V 1 Z<|aO (t:=7) Z Z (aj Z Z (dJ _ a1 32 (by decide))) Z<|V 1 Z<|aO (t:=7) Z Z (aD u58 Z (e.b c.fr)) Z<|V 3 Z ?_
  cases b:(decide ((wI (Int.tdiv a1 32))<(a0.length:Int)))
  case true=>
   have h:=bH h b
   try simp only[b]
   refine V 2 Z<|aO (t:=14) Z Z (aj Z Z (dJ _ a1 32 (by decide))) Z<|M h fun f g h=>aO (t:=14) Z Z (bh u58 aL Z Z (e.b c.fr) g) Z<|aO (t:=14) Z Z (aX u106 Z Z (e.b c.fr) g Z) Z<|V 1 Z<|aO (t:=14) Z Z (aj Z Z (kN _ a1 32 (by decide))) Z<|db h fun j h=>aO (t:=14) Z Z (aj Z Z (tf _ f (Int.tmod a1 32) j)) Z<|aO (t:=14) Z Z (aj Z Z (km _ (bv f (((Int.tmod a1 32)).toNat)) 1)) Z<|aO (t:=14) Z Z (aj Z Z (rN _ ((bv f (((Int.tmod a1 32)).toNat)) &&& 1) 1)) Z<|V 2 Z<|Q<|aq ?_
   cases h
   exact au Z Z ⟨Z,c⟩
  case false=>
   have h:=bI h b
   try simp only[b]
   refine V 12 Z<|Q<|aq ?_
   cases h
   exact au Z Z ⟨Z,c⟩
 case false=>
  have h:=bI h a
  try simp only[a]
  refine V 19 Z<|Q<|aq ?_
  cases h
  exact au Z Z ⟨Z,c⟩
theorem jD {f:World} {a0:Q0} {d:Value} (a1:Int) {r:Q0}
  (h:F.GU a0 a1=some r) (c:RP [] f X d a0):Calls Tryz.prog 129 #[d,H a1] f (Ret fun v w=>St [] f w [U X v r]):=by
 refine ay 27 Tryz.func129 Z Z Z<|have a:=St.k f;ax [(0,d),(1,H a1)] Z ?_
 unfold F.GU at h
 refine R<|V 1 Z<|gl2<|V 1 Z<|M h fun s g h=>dm a Z (cL  g (c.b a.fr).rp) Z fun b w a=>V 1 Z<|gl2<|V 1 Z<|O (xp Z Z) Z<|V 1 Z<|gl1<|R<|V 1 Z<|O (aj Z Z (dJ _ (max a1 0) 32 (by decide))) Z<|V 1 Z<|O (aD u57 Z ((c.tk3 b).b a.fr)) Z<|V 1 Z<|Q ?_
 apply gl9 Z h<;>intro h
 ·refine R<|V 1 Z<|gl8 ?_
  cases h
  exact au Z Z ((a.nil X).d [0] Z Z)
 refine gl6<|V 2 Z<|O (aj Z Z (dJ _ (max a1 0) 32 (by decide))) Z<|M h fun t e h=>O (oG u57 aL Z Z ((c.tk3 b).b a.fr) e) Z<|M h fun n j h=>bn (sK u57 aL Z Z Z a (((c.tk3 b).g_sll e).b a.fr) j) Z fun o w a=>V 1 Z<|gl2<|V 2 Z<|O (aj Z Z (kN _ (max a1 0) 32 (by decide))) Z<|have p:=a.pick (os':=[U X o n]++[]) [0] (by decide) Z;M h fun u k h=>aJ Z (qv (Int.tmod (max a1 0) 32) k p.f ) Z ?_
 rintro _ w ⟨rfl,q⟩
 have a:=p.g q
 refine gl2<|V 1 Z<|M h fun x l h=>dm a Z (dK  l (a.ro 0 Z).rp) Z fun m w a=>V 1 Z<|Q<|aq ?_
 cases h
 replace a:=a.trunc3 (i:=0) rfl m
 exact au Z Z (a.d [0] Z Z)
theorem qw {e:World} {a0:Q1} {a1:Q0} {b d:Value} {S:Q2} {r:Q1}
  (h:F.Ju a0 a1=some r) (a:St S e e [U e8 b a0]) (m:RP S e X d a1):Calls Tryz.prog 67 #[b,d] e (Ret fun v w=>v=.tuple #[]/\St S e w [U e8 b r]):=by
 refine ay 38 Tryz.func67 Z Z Z<|ax [(0,b),(1,d)] Z ?_
 unfold F.Ju at h
 refine R<|V 1 Z<|O (aD u25 Z (a.ro 0 Z)) Z<|V 1 Z<|Q<|av<|ax [(0,b),(1,d),(7,H (a0.length:Int)),(8,H 0)] Z ?_
 refine bf (F.Ky a0 a1) (fun (s:Int×Q1) L w=>L=[(0,b),(1,d),(7,H (a0.length:Int)),(8,H s.1)]/\St S e w [U e8 b s.2]) ?_ (0,a0) ⟨Z,a⟩ h
 rintro T ⟨n,ac⟩ L w C D x h o
 try dsimp only at D
 obtain⟨rfl,a⟩:=D
 unfold F.Ky at h
 refine R<|V 1 Z<|gl1 ?_
 apply gl9 Z h<;>intro h
 ·refine gl5 ?_
  refine aU (r:=C) (fun (g:Q1) L w=>L=[(0,b),(1,d),(7,H (a0.length:Int)),(8,H n)]/\St S e w [U e8 b g]) (F.Ks n) ?_ ?_
  rotate_left
  ·intro j
   refine av<|R<|V 2 Z<|gl2<|V 1 Z<|O (aD u25 Z (a.ro 0 Z)) Z<|V 3 Z<|bg h fun c y h=>O (bd (v:=H c) (by rw[<-y]; rfl)) Z<|gl2<|V 2 Z<|M h fun ad p h=>O (bh u25 ti5 Z Z (a.ro 0 Z) p) Z<|bm (bX (t:=0) ti5 Z Z a (i:=0) Z p Z) fun w a=>bg h fun E z h=>?_
   rw[z]at a
   refine gl2<|V 1 Z<|O (aj Z Z (dJ _ c 4 (by decide))) Z<|V 1 Z<|O (aD u57 Z (m.b a.fr)) Z<|V 1 Z<|Q ?_
   apply gl9 Z h<;>intro h
   ·refine al<|V 4 Z<|O (aj Z Z (dJ _ c 4 (by decide))) Z<|M h fun f k h=>O (bh u57 aL Z Z (m.b a.fr) k) Z<|O (aX u106 Z Z (m.b a.fr) k Z) Z<|V 1 Z<|O (aj Z Z (kN _ c 4 (by decide))) Z<|O (aj Z Z (ee _ 8 (Int.tmod c 4))) Z<|db h fun q h=>O (aj Z Z (tf _ f (wI (8*(Int.tmod c 4))) q)) Z<|O (aE Z (fT u106 Tryz.underlying5 (bv f (((wI (8*(Int.tmod c 4)))).toNat)))) Z<|M h fun ab l h=>O (bh u25 ti5 Z Z (a.ro 0 Z) l) Z<|bm (bX (t:=((bv f (((wI (8*(Int.tmod c 4)))).toNat)).toUInt8)) ti5 Z Z a (i:=0) Z l Z) fun w a=>bg h fun A u h=>?_
    rw[u]at a
    exact aG<|aH<|am<|aB (j A _ _ ⟨Z,a⟩ h) Z
   exact cf<|aH<|am<|aB (j E _ _ ⟨Z,a⟩ h) Z
  rintro B L w G h
  try dsimp only at G
  obtain⟨rfl,a⟩:=G
  unfold F.Ks at h
  exact al<|V 2 Z<|aG<|bo (br (x (wI (n+1),B) _ _ ⟨Z,a⟩ (aW h o)) Z)
 refine aZ<|aA<|aA<|have h:=aR h o;a7 ?_
 cases h
 exact gp Z ⟨Z,a.d [0] Z Z⟩
theorem lJ {i:World} {a0:Q0} {f:Value} (a1:Int) {r:Q1×Bool}
  (h:F.Hp a0 a1=some r) (j:RP [] i X f a0):Calls Tryz.prog 29 #[f,H a1] i (Ret fun v w=>∃u0:Value,v=.tuple #[u0,N r.2]/\St [] i w [U e8 u0 r.1]):=by
 refine ay 28 Tryz.func29 Z Z Z<|have a:=St.k i;ax [(0,f),(1,H a1)] Z ?_
 unfold F.Hp at h
 refine R<|V 2 Z<|gl1 ?_
 refine aU (r:=r) (fun (g:Bool) L w=>L=[(0,f),(1,H a1),(20,N g)]/\St [] i w []) (F.JG a0 a1) ?_ ?_
 rotate_left
 ·intro d
  refine al<|V 3 Z ?_
  cases b:(decide (a1<0))
  case true=>
   have h:=bH h b
   try simp only[b]
   exact V 11 Z<|Q<|aB (d true _ _ ⟨Z,a⟩ h) Z
  case false=>
   have h:=bI h b
   try simp only[b]
   refine V 4 Z ?_
   cases c:(decide ((16384:Int)<a1))
   case true=>
    have h:=bH h c
    try simp only[c]
    exact V 7 Z<|Q<|aB (d true _ _ ⟨Z,a⟩ h) Z
   case false=>
    have h:=bI h c
    try simp only[c]
    refine V 1 Z<|M h fun n p h=>bU (t:=13) Z Z (by kernel_rfl) Z (dM  p (j.b a.fr).rp) Z ?_
    rintro _ w ⟨rfl,k⟩
    have a:=a.e k
    exact V 1 Z<|aO (t:=13) Z Z (aj Z Z (dJ _ (wI (n+7)) 8 (by decide))) Z<|V 3 Z<|Q<|aB (d (decide (a1<(wI (Int.tdiv (wI (n+7)) 8)))) _ _ ⟨Z,a⟩ h) Z
 rintro A L w x h
 try dsimp only at x
 obtain⟨rfl,a⟩:=x
 unfold F.JG at h
 apply gl9 Z h<;>intro h
 ·refine R<|V 2 Z<|gl8 ?_
  cases h
  exact bE Z Z Z ⟨Q3,Z,(a.nil e8).d [0] Z Z⟩
 refine gl6<|V 1 Z<|M h fun y q h=>bn (cV (e:=e8) u25 ti5 Z Z Z a q) Z fun o w a=>V 1 Z<|gl2<|V 2 Z<|M h fun B s h=>dm a Z (cL  s (j.b a.fr).rp) Z fun l w a=>have u:=a.pick (os':=[U e8 o y]++[]) [0] (by decide) Z;M h fun z m h=>aJ Z (qw  m u.f ((j.tk3 l).f (W Z) u)) Z ?_
 rintro _ w ⟨rfl,k⟩
 have a:=u.g k
 refine gl2<|V 3 Z<|Q<|aq ?_
 cases h
 exact bE Z Z Z ⟨o,Z,a.d [0] Z Z⟩
theorem wJ {d:World} {a0:Q0} {b:Value} {r:Q1}
  (h:F.K9 a0=some r) (c:RP [] d X b a0):Calls Tryz.prog 166 #[b] d (Ret fun v w=>St [] d w [U e8 v r]):=by
 refine ay 16 Tryz.func166 Z Z Z<|have a:=St.k d;ax [(0,b)] Z ?_
 unfold F.K9 at h
 refine R<|V 1 Z<|gl2<|V 1 Z<|M h fun n f h=>aS a Z (dM  f (c.b a.fr).rp) Z fun w a=>V 1 Z<|O (aj Z Z (dJ _ (wI (n+7)) 8 (by decide))) Z<|bg h fun o g h=>O (bd (v:=H o) (by rw[<-g]; rfl)) Z<|gl2<|V 1 Z<|M h fun p i h=>bn (cV (e:=e8) u25 ti5 Z Z Z a i) Z fun q w a=>V 1 Z<|gl2<|V 2 Z<|M h fun t j h=>dm a Z (cL  j (c.b a.fr).rp) Z fun k w a=>have l:=a.pick (os':=[U e8 q p]++[]) [0] (by decide) Z;M h fun u m h=>aJ Z (qw  m l.f ((c.tk3 k).f (W Z) l)) Z ?_
 rintro _ w ⟨rfl,s⟩
 have a:=l.g s
 refine gl2<|V 2 Z<|Q<|aq ?_
 cases h
 exact au Z Z (a.d [0] Z Z)
end Go.Proofs
