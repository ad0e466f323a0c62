import Derived.Test.YtmegjloifgfldaaGreatDoorRW0
import Derived.Test.YtmegjloifgfldaaGreatDoorGkFman
set_option linter.unusedVariables false
set_option linter.unusedSimpArgs false
set_option linter.unusedSectionVars false
set_option maxRecDepth 4000
namespace Go.Proofs
open Go Go.RowKit Go.Gk
open Go.Gk renaming aa -> V, af -> M, ag -> O, ai -> J, gl3 -> Q, gl4 -> R, own -> U, vB -> N, vI -> H
theorem fb {a:World} (a0:Q1) (a1:UInt8) {r:Int}
  (h:F.L4 a0 a1=some r) :Calls Tryz.prog 154 #[vS a0,v8 a1] a (Ret fun v w=>v=H r/\St [] a w []):=by
 refine ay 8 Tryz.func154 Z Z Z<|have b:=St.k a;ax [(0,vS a0),(1,v8 a1)] Z ?_
 unfold F.L4 at h
 refine R<|V 1 Z<|gl2<|V 2 Z<|O (wT Gh Z (wx a0 a1 _)) Z<|V 1 Z<|Q<|aq ?_
 cases h
 exact au Z Z ⟨Z,b⟩
theorem jn {b:World} (a0:Q1) {r:Int}
  (h:F.LO a0=some r) :Calls Tryz.prog 153 #[vS a0,vS [46]] b (Ret fun v w=>v=H r/\St [] b w []):=by
 refine ay 143 Tryz.func153 Z Z Z<|have a:=St.k b;ax [(0,vS a0),(1,vS [46])] Z ?_
 unfold F.LO at h
 refine R<|V 1 Z<|gl2<|V 1 Z<|O (di Tryz.underlying9 Z) Z<|V 1 Z<|gl1<|av<|R<|V 1 Z<|O (aj Z Z (ol _ 1 0)) Z<|V 3 Z<|aO (t:=19) Z Z (aj Z Z (jH _ [46] a0)) Z<|V 2 Z<|Q ?_
 apply gl9 Z h<;>intro h
 ·refine R<|V 1 Z<|Q<|aq<|bb<|aN ?_
  cases h
  exact au Z Z ⟨Z,a⟩
 refine R<|V 1 Z<|O (aj Z Z (ol _ 1 1)) Z<|V 1 Z<|Q<|cZ Z<|R<|V 2 Z<|M h fun e c h=>O (dF Tryz.underlying9 Z Z c) Z<|M h fun f d h=>aS a Z (fb a0 e d ) Z fun w a=>V 1 Z<|Q<|aq<|bb<|aN ?_
 cases h
 exact au Z Z ⟨Z,a⟩
theorem rv {a:World} (a0:Q1) {r:Int}
  (h:F.L1 a0=some r) :Calls Tryz.prog 55 #[vS a0,vS [46]] a (Ret fun v w=>v=H r/\St [] a w []):=by
 refine ay 34 Tryz.func55 Z Z Z<|have d:=St.k a;ax [(0,vS a0),(1,vS [46])] Z ?_
 unfold F.L1 at h
 refine R<|V 1 Z<|gl1<|R<|V 1 Z<|O (di Tryz.underlying9 Z) Z<|O (aj Z Z (ol _ 1 0)) Z<|Q<|eJ Z<|gl5<|az<|R<|V 1 Z<|O (di Tryz.underlying9 Z) Z<|O (aj Z Z (ol _ 1 1)) Z<|Q<|cZ Z<|R<|V 2 Z<|M h fun c b h=>O (dF Tryz.underlying9 Z Z b) Z<|O (wT Gr Z (wS a0 c _)) Z<|V 1 Z<|gl8 ?_
 cases h
 exact au Z Z ⟨Z,d⟩
theorem jP {b:World} (a0:Q1) {r:Q1×Q1×Bool}
  (h:F.LV a0=some r) :Calls Tryz.prog 109 #[vS a0,vS [46]] b (Ret fun v w=>v=.tuple #[vS r.1,vS r.2.1,N r.2.2]/\St [] b w []):=by
 refine ay 23 Tryz.func109 Z Z Z<|have a:=St.k b;ax [(0,vS a0),(1,vS [46])] Z ?_
 unfold F.LV at h
 refine R<|V 3 Z<|gl1<|R<|V 2 Z<|M h fun i c h=>aS a Z (jn a0 c ) Z fun w a=>V 1 Z<|gl2<|V 2 Z<|Q ?_
 apply gl9 Z h<;>intro h
 ·refine az<|aQ (fun w'=>St [] b w' []) (fun _=>true) bK (fun _ _ _ d=>d.2) (fun _ _ d=>d) (by kernel_rfl)<|have a:=a.drew;show lxE _ _ _ _ _ _ _ [0,1,2,3,4,5,6,7,8,9,10,11] _ _ from an 2 Z a<|M h fun j e h=>J a Z Z (fun w g=>EW Tryz.underlying9 Z Z e) Z<|an 3 Z a<|J a Z Z (fun w g=>di Tryz.underlying9 Z) Z<|an 1 Z a<|M h fun k f h=>J a Z Z (fun w g=>qO Tryz.underlying9 Z Z f) Z<|an 3 Z a<|a8 a<|am<|gl7 ?_
  cases h
  exact dH Z Z Z Z ⟨Z,a⟩
 refine gl6<|V 4 Z<|Q<|aq ?_
 cases h
 exact dH Z Z Z Z ⟨Z,a⟩
theorem na {a:World} (a0:Q1) {r:Q1×Q1×Bool}
  (h:F.JF a0=some r) :Calls Tryz.prog 56 #[vS a0,vS [46]] a (Ret fun v w=>v=.tuple #[vS r.1,vS r.2.1,N r.2.2]/\St [] a w []):=by
 refine ay 13 Tryz.func56 Z Z Z<|have b:=St.k a;ax [(0,vS a0),(1,vS [46])] Z ?_
 unfold F.JF at h
 refine R<|V 3 Z<|gl2<|V 2 Z<|M h fun d c h=>aS b Z (jP a0 c ) Z fun w b=>V 6 Z<|Q<|aq ?_
 cases h
 exact dH Z Z Z Z ⟨Z,b⟩
theorem i6 {a:World} (a0:Q1) (a1:UInt8) {r:Int}
  (h:F.Jv a0 a1=some r) :Calls Tryz.prog 110 #[vS a0,v8 a1] a (Ret fun v w=>v=H r/\St [] a w []):=by
 refine ay 8 Tryz.func110 Z Z Z<|have b:=St.k a;ax [(0,vS a0),(1,v8 a1)] Z ?_
 unfold F.Jv at h
 refine R<|V 1 Z<|gl2<|V 2 Z<|M h fun d c h=>aS b Z (fb a0 a1 c ) Z fun w b=>V 1 Z<|Q<|aq ?_
 cases h
 exact au Z Z ⟨Z,b⟩
theorem cc {a:World} (a0:UInt32) (a1:Int) {r:UInt32}
  (h:F.GB a0 a1=some r) :Calls Tryz.prog 174 #[v32 a0,H a1] a (Ret fun v w=>v=v32 r/\St [] a w []):=by
 refine ay 17 Tryz.func174 Z Z Z<|have b:=St.k a;ax [(0,v32 a0),(1,H a1)] Z ?_
 unfold F.GB at h
 refine R<|V 1 Z<|gl2<|V 1 Z<|O (aE Z (fv u3 u67 a1)) Z<|O (aj Z Z (fX _ (UInt64.ofInt a1) 31)) Z<|V 1 Z<|gl2<|V 2 Z<|O (aj Z Z (kb _ a0 ((UInt64.ofInt a1) &&& 31))) Z<|V 2 Z<|O (aj Z Z (fu _ 32 ((UInt64.ofInt a1) &&& 31))) Z<|O (aj Z Z (de _ a0 (32 - ((UInt64.ofInt a1) &&& 31)))) Z<|O (aj Z Z (gw _ (cu a0 (((UInt64.ofInt a1) &&& 31).toNat)) (bv a0 ((32 - ((UInt64.ofInt a1) &&& 31)).toNat)))) Z<|V 1 Z<|Q<|aq ?_
 cases h
 exact au Z Z ⟨Z,b⟩
theorem cd {a:World} (a0:UInt64) (a1:Int) {r:UInt64}
  (h:F.GD a0 a1=some r) :Calls Tryz.prog 175 #[v64 a0,H a1] a (Ret fun v w=>v=v64 r/\St [] a w []):=by
 refine ay 17 Tryz.func175 Z Z Z<|have b:=St.k a;ax [(0,v64 a0),(1,H a1)] Z ?_
 unfold F.GD at h
 refine R<|V 1 Z<|gl2<|V 1 Z<|O (aE Z (fv u3 u67 a1)) Z<|O (aj Z Z (fX _ (UInt64.ofInt a1) 63)) Z<|V 1 Z<|gl2<|V 2 Z<|O (aj Z Z (cp _ a0 ((UInt64.ofInt a1) &&& 63))) Z<|V 2 Z<|O (aj Z Z (fu _ 64 ((UInt64.ofInt a1) &&& 63))) Z<|O (aj Z Z (ca _ a0 (64 - ((UInt64.ofInt a1) &&& 63)))) Z<|O (aj Z Z (dL _ (aF a0 (((UInt64.ofInt a1) &&& 63).toNat)) (aP a0 ((64 - ((UInt64.ofInt a1) &&& 63)).toNat)))) Z<|V 1 Z<|Q<|aq ?_
 cases h
 exact au Z Z ⟨Z,b⟩
theorem j6 {c:World} (a0:UInt32) {r:Int}
  (h:F.Ko a0=some r) :Calls Tryz.prog 68 #[v32 a0] c (Ret fun v w=>v=H r/\St [] c w []):=by
 refine ay 19 Tryz.func68 Z Z Z<|have a:=St.k c;ax [(0,v32 a0)] Z ?_
 unfold F.Ko at h
 refine R<|V 1 Z<|Q ?_
 refine aU (r:=r) (fun (g:UInt32×Int) L w=>L=[(0,v32 g.1),(2,H g.2)]/\St [] c w []) (F.JP) ?_ ?_
 rotate_left
 ·intro d
  refine R<|V 1 Z<|O (aj Z Z (xz _ a0 65536)) Z<|Q ?_
  apply gl9 Z h<;>intro h
  ·exact R<|V 1 Z<|O (aj Z Z (de _ a0 16)) Z<|V 1 Z<|Q<|al<|V 1 Z<|Q<|aB (d (bv a0 16,16) _ _ ⟨Z,a⟩ h) Z
  exact gl5<|aB (d (a0,0) _ _ ⟨Z,a⟩ h) Z
 rintro⟨b,j⟩ L w e h
 try dsimp only at e
 obtain⟨rfl,a⟩:=e
 unfold F.JP at h
 refine aU (r:=r) (fun (g:UInt32×Int) L w=>L=[(0,v32 g.1),(2,H g.2)]/\St [] c w []) (F.JO) ?_ ?_
 rotate_left
 ·intro f
  refine R<|V 1 Z<|O (aj Z Z (xz _ b 256)) Z<|Q ?_
  apply gl9 Z h<;>intro h
  ·exact R<|V 1 Z<|O (aj Z Z (de _ b 8)) Z<|V 1 Z<|Q<|al<|V 3 Z<|Q<|aB (f (bv b 8,wI (j+8)) _ _ ⟨Z,a⟩ h) Z
  exact gl5<|aB (f (b,j) _ _ ⟨Z,a⟩ h) Z
 rintro⟨m,o⟩ L w e h
 try dsimp only at e
 obtain⟨rfl,a⟩:=e
 unfold F.JO at h
 refine R<|V 2 Z<|O (aE Z (fT u106 Tryz.underlying5 m)) Z<|M h fun n k h=>O (dF Tryz.underlying9 Z Z k) Z<|O (aE Z (rk Tryz.underlying5 u3 n)) Z<|V 1 Z<|bg h fun l i h=>O (bd (v:=H l) (by rw[<-i]; rfl)) Z<|Q<|aq ?_
 cases h
 exact au Z Z ⟨Z,a⟩
theorem j0 {d:World} {a0:Q1} {c:Value} {r:Q1}
  (h:F.Ho a0=some r) (f:RP [] d e8 c a0):Calls Tryz.prog 70 #[c] d (Ret fun v w=>St [] d w [U e8 v r]):=by
 refine ay 8 Tryz.func70 Z Z Z<|have a:=St.k d;ax [(0,c)] Z ?_
 unfold F.Ho at h
 refine R<|V 1 Z<|gl1<|R<|V 1 Z ?_
 rcases f.isnil u25 with⟨g,b,j⟩ | ⟨b,j⟩
 ·refine O (aj Z Z b) Z ?_
  have h:=(show some []=some r by rw[g]at h; exact h)
  refine Q<|cZ Z<|R<|V 1 Z<|gl8 ?_
  cases h
  exact au Z Z ((a.nil e8).d [0] Z Z)
 ·refine O (aj Z Z b) Z<|Q<|eJ Z<|gl6<|bn (uy (e:=e8) u25 ti5 a) Z fun l w a=>V 1 Z<|M h fun m k h=>bn (dQ u25 ti5 Z Z Z a (i:=0) Z (f.b a.fr) k) Z fun n w a=>V 1 Z<|Q<|aq ?_
  cases h
  exact au Z Z (a.d [0] Z Z)
theorem gi {j:World} {a0:Q1} {b:Value} {S:Q2} {r:Q1}
  (h:F.Ke a0=some r) (a:St S j j [U e8 b a0]):Calls Tryz.prog 92 #[b] j (Ret fun v w=>v=.tuple #[]/\St S j w [U e8 b r]):=by
 refine ay 28 Tryz.func92 Z Z Z<|ax [(0,b)] Z ?_
 unfold F.Ke at h
 refine R<|V 1 Z<|O (aD u25 Z (a.ro 0 Z)) Z<|V 2 Z<|bg h fun k o h=>O (bd (v:=H k) (by rw[<-o]; rfl)) Z<|Q<|av<|ax [(0,b),(2,H 0),(3,H k)] Z ?_
 refine bf (F.J6) (fun (s:Int×Int×Q1) L w=>L=[(0,b),(2,H s.1),(3,H s.2.1)]/\St S j w [U e8 b s.2.2]) ?_ (0,k,a0) ⟨Z,a⟩ h
 rintro D ⟨z,A,ab⟩ L w ac B p h l
 try dsimp only at B
 obtain⟨rfl,a⟩:=B
 unfold F.J6 at h
 refine az<|R<|V 3 Z<|Q ?_
 apply gl9 Z h<;>intro h
 ·refine gl5<|az<|av<|have hsh0:=(a.ro 0 Z).shp;dy (fun w'=>St S j w' []) (fun i=>!([1007,1011,13,15].contains i)) bK (fun _ _ _ q=>q.2) (fun _ _ q=>q) (by kernel_rfl)<|have a:=a.drew;show lxE _ _ _ _ _ _ _ [0,1,2,3,4,5,6,7,8,9,10,11,12,13,14,15] _ _ from an 6 Z (a.d [] Z Z)<|M h fun C m h=>J (a.d [] Z Z) Z Z (fun w u=>za (e:=e8) u25 ti5 Z Z hsh0 m) Z<|k7 (a.d [] Z Z) Z Z Z (aX Tryz.underlying5 Z Z (a.ro 0 Z) m Z) Z<|an 2 Z (a.d [] Z Z)<|M h fun x c h=>J (a.d [] Z Z) Z Z (fun w u=>za (e:=e8) u25 ti5 Z Z hsh0 c) Z<|k7 (a.d [] Z Z) Z Z Z (aX Tryz.underlying5 Z Z (a.ro 0 Z) c Z) Z<|M h fun E d h=>J (a.d [] Z Z) Z Z (fun w u=>za (e:=e8) u25 ti5 Z Z hsh0 d) Z<|gu (a.d [] Z Z) Z Z (bX (t:=C) ti5 Z Z a (i:=0) Z d Z) fun w a=>bg h fun G f h=>?_
  rw[f]at a
  refine M h fun T g h=>J (a.d [] Z Z) Z Z (fun w u=>za (e:=e8) u25 ti5 Z Z (by rw[<-f,List.length_set]; exact hsh0) g) Z<|gu (a.d [] Z Z) Z Z (bX (t:=x) ti5 Z Z a (i:=0) Z g Z) fun w a=>bg h fun y n h=>?_
  rw[n]at a
  exact a8 K<|aH<|am<|al<|V 6 Z<|aG<|bo (br (p (wI (z+1),wI (A - 1),y) _ _ ⟨Z,a⟩ (aW h l)) Z)
 refine aZ<|aA<|aA<|have h:=aR h l;a7 ?_
 cases h
 exact gp Z ⟨Z,a.d [0] Z Z⟩
theorem pd {e:World} (a0 a1 a2:UInt32) {r:UInt32×UInt32}
  (h:F.Ls a0 a1 a2=some r) :Calls Tryz.prog 145 #[v32 a0,v32 a1,v32 a2] e (Ret fun v w=>v=.tuple #[v32 r.1,v32 r.2]/\St [] e w []):=by
 refine ay 33 Tryz.func145 Z Z Z<|have a:=St.k e;ax [(0,v32 a0),(1,v32 a1),(2,v32 a2)] Z ?_
 unfold F.Ls at h
 refine R<|V 2 Z<|gl1 ?_
 refine aU (r:=r) (fun (g:Bool) L w=>L=[(0,v32 a0),(1,v32 a1),(2,v32 a2),(15,N g)]/\St [] e w []) (F.KI a0 a1 a2) ?_ ?_
 rotate_left
 ·intro f
  refine al<|V 1 Z<|O (aj Z Z (oN _ a2 0)) Z<|V 1 Z ?_
  cases b:(a2 != 0)
  case true=>
   have h:=bH h b
   try simp only[b]
   exact V 2 Z<|aO (t:=11) Z Z (aj Z Z (DM _ a2 a0)) Z<|V 1 Z<|Q<|aB (f (decide (a2<=a0)) _ _ ⟨Z,a⟩ h) Z
  case false=>
   have h:=bI h b
   try simp only[b]
   exact V 4 Z<|Q<|aB (f false _ _ ⟨Z,a⟩ h) Z
 rintro s L w o h
 try dsimp only at o
 obtain⟨rfl,a⟩:=o
 unfold F.KI at h
 apply gl9 Z h<;>intro h
 ·cases h
 refine gl6<|V 1 Z<|O (aE Z (bC u106 u103 a0)) Z<|O (aj Z Z (cp _ a0.toUInt64 32)) Z<|V 1 Z<|O (aE Z (bC u106 u103 a1)) Z<|O (aj Z Z (dL _ (aF a0.toUInt64 32) a1.toUInt64)) Z<|bg h fun c i h=>O (bd (v:=v64 c) (by rw[<-i]; rfl)) Z<|gl1<|aQ (fun w'=>St [] e w' []) (fun _=>true) bK (fun _ _ _ j=>j.2) (fun _ _ j=>j) (by kernel_rfl)<|have a:=a.drew;show lxE _ _ _ _ _ _ _ [0,1,2,3,4,5,6,7,8,9,10,11] _ _ from an 2 Z a<|J a Z Z (fun w d=>aE Z (bC u106 u103 a2)) Z<|db h fun k h=>J a Z Z (fun w d=>aj Z Z (jk _ c a2.toUInt64 k)) Z<|J a Z Z (fun w d=>aE Z (ce u103 u106 (c / a2.toUInt64))) Z<|an 2 Z a<|J a Z Z (fun w d=>aE Z (bC u106 u103 a2)) Z<|db h fun l h=>J a Z Z (fun w d=>aj Z Z (fp _ c a2.toUInt64 l)) Z<|J a Z Z (fun w d=>aE Z (ce u103 u106 (c%a2.toUInt64))) Z<|bg h fun p m h=>J a Z Z (fun w d=>bd (v:=v32 p) (by rw[<-m]; rfl)) Z<|bg h fun q n h=>J a Z Z (fun w d=>bd (v:=v32 q) (by rw[<-n]; rfl)) Z<|a8 a<|am ?_
 refine aq ?_
 cases h
 exact bE Z Z Z ⟨Z,a⟩
theorem jN {a:World} (a0:UInt32) {r:Int}
  (h:F.K5 a0=some r) :Calls Tryz.prog 146 #[v32 a0] a (Ret fun v w=>v=H r/\St [] a w []):=by
 refine ay 6 Tryz.func146 Z Z Z<|have b:=St.k a;ax [(0,v32 a0)] Z ?_
 unfold F.K5 at h
 refine R<|V 1 Z<|gl2<|V 1 Z<|M h fun d c h=>aS b Z (j6 a0 c ) Z fun w b=>V 2 Z<|Q<|aq ?_
 cases h
 exact au Z Z ⟨Z,b⟩
theorem pb {a:World} (a0 a1 a2:UInt32) {r:UInt32×UInt32}
  (h:F.Mi a0 a1 a2=some r) :Calls Tryz.prog 169 #[v32 a0,v32 a1,v32 a2] a (Ret fun v w=>v=.tuple #[v32 r.1,v32 r.2]/\St [] a w []):=by
 refine ay 25 Tryz.func169 Z Z Z<|have d:=St.k a;ax [(0,v32 a0),(1,v32 a1),(2,v32 a2)] Z ?_
 unfold F.Mi at h
 refine R<|V 2 Z<|gl2<|V 2 Z<|O (aj Z Z (xV _ a0 a1)) Z<|V 1 Z<|O (aj Z Z (xV _ (a0 - a1) a2)) Z<|V 1 Z<|gl2<|V 1 Z<|O (nH Z (xb a0)) Z<|V 1 Z<|O (aj Z Z (km _ (~~~ a0) a1)) Z<|V 2 Z<|O (aj Z Z (fW _ a0 a1)) Z<|O (nH Z (xb (a0 ^^^ a1))) Z<|V 1 Z<|O (aj Z Z (km _ (~~~ (a0 ^^^ a1)) ((a0 - a1) - a2))) Z<|O (aj Z Z (gw _ ((~~~ a0) &&& a1) ((~~~ (a0 ^^^ a1)) &&& ((a0 - a1) - a2)))) Z<|O (aj Z Z (de _ (((~~~ a0) &&& a1) ||| ((~~~ (a0 ^^^ a1)) &&& ((a0 - a1) - a2))) 31)) Z<|bg h fun c b h=>O (bd (v:=v32 c) (by rw[<-b]; rfl)) Z<|Q<|aq ?_
 cases h
 exact bE Z Z Z ⟨Z,d⟩
theorem j1 {a:World} {a0 a1:Q1} {b c:Value} {r:Bool}
  (h:F.IL a0 a1=some r) (e:RP [] a e8 b a0) (f:RP [] a e8 c a1):Calls Tryz.prog 30 #[b,c] a (Ret fun v w=>v=N r/\St [] a w []):=by
 refine ay 10 Tryz.func30 Z Z Z<|have d:=St.k a;ax [(0,b),(1,c)] Z ?_
 unfold F.IL at h
 refine R<|V 1 Z<|gl2<|V 1 Z<|O (lV u25 Tryz.underlying5 Tryz.underlying9 Z (e.b d.fr)) Z<|V 1 Z<|O (lV u25 Tryz.underlying5 Tryz.underlying9 Z (f.b d.fr)) Z<|O (aj Z Z (jH _ a0 a1)) Z<|V 1 Z<|Q<|aq ?_
 cases h
 exact au Z Z ⟨Z,d⟩
end Go.Proofs
