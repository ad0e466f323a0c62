import Derived.Test.YtahgjafdhjbkeaaGreatDoorRW0
import Derived.Test.YtahgjafdhjbkeaaGreatDoorGkFman
set_option linter.unusedVariables false
set_option linter.unusedSimpArgs false
set_option linter.unusedSectionVars false
set_option maxRecDepth 4000
namespace Go.Proofs
open Go Go.RowKit Go.Gk
open Go.Gk renaming aa -> V, af -> J, ag -> N, ai -> H, gl3 -> P, gl4 -> R, vB -> K, vI -> I
theorem jC {c:World} (a0:UInt32) {r:Int}
  (h:F.HE a0=some r) :Calls Tryz.prog 111 #[v32 a0] c (Ret fun v w=>v=I r/\St [] c w []):=by
 refine aB 19 Tryz.func111 Z Z Z<|have a:=St.k c;ax [(0,v32 a0)] Z ?_
 unfold F.HE at h
 refine R<|V 1 Z<|P ?_
 refine a8 (r:=r) (fun (g:UInt32×Int) L w=>L=[(0,v32 g.1),(2,I g.2)]/\St [] c w []) (F.Ha) ?_ ?_
 rotate_left
 ·intro d
  refine R<|V 1 Z<|N (aj Z Z (vq _ a0 65536)) Z<|P ?_
  apply gl9 Z h<;>intro h
  ·exact R<|V 1 Z<|N (aj Z Z (cO _ a0 16)) Z<|V 1 Z<|P<|al<|V 1 Z<|P<|aG (d (bA a0 16,16) _ _ ⟨Z,a⟩ h) Z
  exact gl5<|aG (d (a0,0) _ _ ⟨Z,a⟩ h) Z
 rintro⟨b,j⟩ L w e h
 try dsimp only at e
 obtain⟨rfl,a⟩:=e
 unfold F.Ha at h
 refine a8 (r:=r) (fun (g:UInt32×Int) L w=>L=[(0,v32 g.1),(2,I g.2)]/\St [] c w []) (F.G9) ?_ ?_
 rotate_left
 ·intro f
  refine R<|V 1 Z<|N (aj Z Z (vq _ b 256)) Z<|P ?_
  apply gl9 Z h<;>intro h
  ·exact R<|V 1 Z<|N (aj Z Z (cO _ b 8)) Z<|V 1 Z<|P<|al<|V 3 Z<|P<|aG (f (bA b 8,wI (j+8)) _ _ ⟨Z,a⟩ h) Z
  exact gl5<|aG (f (b,j) _ _ ⟨Z,a⟩ h) Z
 rintro⟨m,o⟩ L w e h
 try dsimp only at e
 obtain⟨rfl,a⟩:=e
 unfold F.G9 at h
 refine R<|V 2 Z<|N (aD Z (fM u38 Tryz.underlying5 m)) Z<|J h fun n k h=>N (kG Tryz.underlying9 Z Z k) Z<|N (aD Z (qg Tryz.underlying5 u3 n)) Z<|V 1 Z<|aZ h fun l i h=>N (ba (v:=I l) (by rw[<-i]; rfl)) Z<|P<|ay ?_
 cases h
 exact az Z Z ⟨Z,a⟩
theorem oA {e:World} (a0 a1 a2:UInt32) {r:UInt32×UInt32}
  (h:F.IQ a0 a1 a2=some r) :Calls Tryz.prog 158 #[v32 a0,v32 a1,v32 a2] e (Ret fun v w=>v=.tuple #[v32 r.1,v32 r.2]/\St [] e w []):=by
 refine aB 33 Tryz.func158 Z Z Z<|have a:=St.k e;ax [(0,v32 a0),(1,v32 a1),(2,v32 a2)] Z ?_
 unfold F.IQ at h
 refine R<|V 2 Z<|gl1 ?_
 refine a8 (r:=r) (fun (g:Bool) L w=>L=[(0,v32 a0),(1,v32 a1),(2,v32 a2),(15,K g)]/\St [] e w []) (F.H1 a0 a1 a2) ?_ ?_
 rotate_left
 ·intro f
  refine al<|V 1 Z<|N (aj Z Z (jN _ a2 0)) Z<|V 1 Z ?_
  cases b:(a2 != 0)
  case true=>
   have h:=cz h b
   try simp only[b]
   exact V 2 Z<|bB (t:=11) Z Z (aj Z Z (A7 _ a2 a0)) Z<|V 1 Z<|P<|aG (f (decide (a2<=a0)) _ _ ⟨Z,a⟩ h) Z
  case false=>
   have h:=cA h b
   try simp only[b]
   exact V 4 Z<|P<|aG (f false _ _ ⟨Z,a⟩ h) Z
 rintro s L w o h
 try dsimp only at o
 obtain⟨rfl,a⟩:=o
 unfold F.H1 at h
 apply gl9 Z h<;>intro h
 ·cases h
 refine gl6<|V 1 Z<|N (aD Z (bK u38 u119 a0)) Z<|N (aj Z Z (du _ a0.toUInt64 32)) Z<|V 1 Z<|N (aD Z (bK u38 u119 a1)) Z<|N (aj Z Z (fo _ (bH a0.toUInt64 32) a1.toUInt64)) Z<|aZ h fun c i h=>N (ba (v:=v64 c) (by rw[<-i]; rfl)) Z<|gl1<|aX (fun w'=>St [] e w' []) (fun _=>true) bQ (fun _ _ _ j=>j.2) (fun _ _ j=>j) (by kernel_rfl)<|have a:=a.drew;show lxE _ _ _ _ _ _ _ [0,1,2,3,4,5,6,7,8,9,10,11] _ _ from ao 2 Z a<|H a Z Z (fun w d=>aD Z (bK u38 u119 a2)) Z<|c7 h fun k h=>H a Z Z (fun w d=>aj Z Z (ii _ c a2.toUInt64 k)) Z<|H a Z Z (fun w d=>aD Z (cc u119 u38 (c / a2.toUInt64))) Z<|ao 2 Z a<|H a Z Z (fun w d=>aD Z (bK u38 u119 a2)) Z<|c7 h fun l h=>H a Z Z (fun w d=>aj Z Z (ft _ c a2.toUInt64 l)) Z<|H a Z Z (fun w d=>aD Z (cc u119 u38 (c%a2.toUInt64))) Z<|aZ h fun p m h=>H a Z Z (fun w d=>ba (v:=v32 p) (by rw[<-m]; rfl)) Z<|aZ h fun q n h=>H a Z Z (fun w d=>ba (v:=v32 q) (by rw[<-n]; rfl)) Z<|bp a<|ak ?_
 refine ay ?_
 cases h
 exact bY Z Z Z ⟨Z,a⟩
theorem jt {a:World} (a0:UInt32) {r:Int}
  (h:F.Is a0=some r) :Calls Tryz.prog 159 #[v32 a0] a (Ret fun v w=>v=I r/\St [] a w []):=by
 refine aB 6 Tryz.func159 Z Z Z<|have b:=St.k a;ax [(0,v32 a0)] Z ?_
 unfold F.Is at h
 refine R<|V 1 Z<|gl2<|V 1 Z<|J h fun d c h=>bf b Z (jC a0 c ) Z fun w b=>V 2 Z<|P<|ay ?_
 cases h
 exact az Z Z ⟨Z,b⟩
theorem oy {a:World} (a0 a1 a2:UInt32) {r:UInt32×UInt32}
  (h:F.Jx a0 a1 a2=some r) :Calls Tryz.prog 171 #[v32 a0,v32 a1,v32 a2] a (Ret fun v w=>v=.tuple #[v32 r.1,v32 r.2]/\St [] a w []):=by
 refine aB 25 Tryz.func171 Z Z Z<|have d:=St.k a;ax [(0,v32 a0),(1,v32 a1),(2,v32 a2)] Z ?_
 unfold F.Jx at h
 refine R<|V 2 Z<|gl2<|V 2 Z<|N (aj Z Z (vO _ a0 a1)) Z<|V 1 Z<|N (aj Z Z (vO _ (a0 - a1) a2)) Z<|V 1 Z<|gl2<|V 1 Z<|N (jV Z (qo a0)) Z<|V 1 Z<|N (aj Z Z (eO _ (~~~ a0) a1)) Z<|V 2 Z<|N (aj Z Z (di _ a0 a1)) Z<|N (jV Z (qo (a0 ^^^ a1))) Z<|V 1 Z<|N (aj Z Z (eO _ (~~~ (a0 ^^^ a1)) ((a0 - a1) - a2))) Z<|N (aj Z Z (eB _ ((~~~ a0) &&& a1) ((~~~ (a0 ^^^ a1)) &&& ((a0 - a1) - a2)))) Z<|N (aj Z Z (cO _ (((~~~ a0) &&& a1) ||| ((~~~ (a0 ^^^ a1)) &&& ((a0 - a1) - a2))) 31)) Z<|aZ h fun c b h=>N (ba (v:=v32 c) (by rw[<-b]; rfl)) Z<|P<|ay ?_
 cases h
 exact bY Z Z Z ⟨Z,d⟩
theorem ci {a:World} (a0:UInt32) (a1:Int) {r:UInt32}
  (h:F.Du a0 a1=some r) :Calls Tryz.prog 181 #[v32 a0,I a1] a (Ret fun v w=>v=v32 r/\St [] a w []):=by
 refine aB 17 Tryz.func181 Z Z Z<|have b:=St.k a;ax [(0,v32 a0),(1,I a1)] Z ?_
 unfold F.Du at h
 refine R<|V 1 Z<|gl2<|V 1 Z<|N (aD Z (dC u3 u87 a1)) Z<|N (aj Z Z (eu _ (UInt64.ofInt a1) 31)) Z<|V 1 Z<|gl2<|V 2 Z<|N (aj Z Z (ei _ a0 ((UInt64.ofInt a1) &&& 31))) Z<|V 2 Z<|N (aj Z Z (eN _ 32 ((UInt64.ofInt a1) &&& 31))) Z<|N (aj Z Z (cO _ a0 (32 - ((UInt64.ofInt a1) &&& 31)))) Z<|N (aj Z Z (eB _ (bP a0 (((UInt64.ofInt a1) &&& 31).toNat)) (bA a0 ((32 - ((UInt64.ofInt a1) &&& 31)).toNat)))) Z<|V 1 Z<|P<|ay ?_
 cases h
 exact az Z Z ⟨Z,b⟩
theorem cj {a:World} (a0:UInt64) (a1:Int) {r:UInt64}
  (h:F.Dx a0 a1=some r) :Calls Tryz.prog 182 #[v64 a0,I a1] a (Ret fun v w=>v=v64 r/\St [] a w []):=by
 refine aB 17 Tryz.func182 Z Z Z<|have b:=St.k a;ax [(0,v64 a0),(1,I a1)] Z ?_
 unfold F.Dx at h
 refine R<|V 1 Z<|gl2<|V 1 Z<|N (aD Z (dC u3 u87 a1)) Z<|N (aj Z Z (eu _ (UInt64.ofInt a1) 63)) Z<|V 1 Z<|gl2<|V 2 Z<|N (aj Z Z (du _ a0 ((UInt64.ofInt a1) &&& 63))) Z<|V 2 Z<|N (aj Z Z (eN _ 64 ((UInt64.ofInt a1) &&& 63))) Z<|N (aj Z Z (cf _ a0 (64 - ((UInt64.ofInt a1) &&& 63)))) Z<|N (aj Z Z (fo _ (bH a0 (((UInt64.ofInt a1) &&& 63).toNat)) (aO a0 ((64 - ((UInt64.ofInt a1) &&& 63)).toNat)))) Z<|V 1 Z<|P<|ay ?_
 cases h
 exact az Z Z ⟨Z,b⟩
end Go.Proofs
