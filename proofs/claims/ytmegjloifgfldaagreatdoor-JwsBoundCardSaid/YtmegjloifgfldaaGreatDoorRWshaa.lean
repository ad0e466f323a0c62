import Derived.Test.YtmegjloifgfldaaGreatDoorRW0
import Derived.Test.YtmegjloifgfldaaGreatDoorGkFman
import Derived.Test.YtmegjloifgfldaaGreatDoorRWlib
set_option linter.unusedVariables false
set_option linter.unusedSimpArgs false
set_option linter.unusedSectionVars false
set_option maxRecDepth 4000
namespace Go.Proofs
open Go Go.RowKit Go.Gk
open Go.Gk renaming aa -> V, af -> M, ag -> O, ai -> J, e32 -> X, gl3 -> Q, gl4 -> R, pB -> P, vB -> N, vI -> H
open Go.Gk.OE renaming bx -> Y
theorem eJ {b:World} (a0:Int) {r:Int}
  (h:F.GL a0=some r) :Calls Tryz.prog 20 #[H a0] b (Ret fun v w=>v=H r/\St [] b w []):=by
 refine ax 10 Tryz.func20 Z Z Z<|have a:=St.k b;ay [(0,H a0)] Z ?_
 unfold F.GL at h
 refine R<|V 1 Z<|gl1<|R<|V 1 Z<|Q<|av<|R<|V 2 Z<|Q ?_
 apply gl9 Z h<;>intro h
 ·refine R<|V 1 Z<|Q<|ar<|aZ<|aM ?_
  cases h
  exact au Z Z ⟨Z,a⟩
 refine R<|V 2 Z<|Q ?_
 apply gl9 Z h<;>intro h
 ·refine R<|V 1 Z<|Q<|ar<|aZ<|aM ?_
  cases h
  exact au Z Z ⟨Z,a⟩
 refine R<|V 2 Z<|Q ?_
 apply gl9 Z h<;>intro h
 ·refine R<|V 1 Z<|Q<|ar<|aZ<|aM ?_
  cases h
  exact au Z Z ⟨Z,a⟩
 refine cg<|aF<|al<|R<|V 1 Z<|Q<|ar ?_
 cases h
 exact au Z Z ⟨Z,a⟩
theorem fJ {c:World} (a0:Int) {r:Int}
  (h:F.Hh a0=some r) :Calls Tryz.prog 113 #[H a0] c (Ret fun v w=>v=H r/\St [] c w []):=by
 refine ax 9 Tryz.func113 Z Z Z<|have a:=St.k c;ay [(0,H a0)] Z ?_
 unfold F.Hh at h
 refine R<|V 1 Z<|gl1<|R<|V 1 Z<|Q<|av<|R<|V 2 Z<|Q ?_
 apply gl9 Z h<;>intro h
 ·refine R<|V 1 Z<|Q<|ar<|aZ<|aM ?_
  cases h
  exact au Z Z ⟨Z,a⟩
 refine aT (r:=r) (fun (g:Bool) L w=>L=[(6,N g)]/\St [] c w []) (F.L0) ?_ ?_
 rotate_left
 ·intro b
  refine R<|V 2 Z<|Q ?_
  apply gl9 Z h<;>intro h
  ·exact gl5<|aA (b (a0 == 2) _ _ ⟨Z,a⟩ h) Z
  exact am<|V 2 Z<|Q<|aA (b (a0 == 3) _ _ ⟨Z,a⟩ h) Z
 rintro e L w d h
 try dsimp only at d
 obtain⟨rfl,a⟩:=d
 unfold F.L0 at h
 apply gl9 Z h<;>intro h
 ·refine R<|V 1 Z<|Q<|ar<|aZ<|aM ?_
  cases h
  exact au Z Z ⟨Z,a⟩
 refine cg<|aF<|al<|R<|V 1 Z<|Q<|ar ?_
 cases h
 exact au Z Z ⟨Z,a⟩
theorem AX {d:World} (a0:Int) {r:Option (Int×Q0×List UInt64×Q1×UInt64)}
  (h:F.Md a0=some r) (f:TB [] d):Calls Tryz.prog 73 #[H a0] d (Ret fun v w=>∃u0:Value,v=u0/\Ct u0 (r.map (fun c=>[H c.1]++(X.fl c.2.1++(e64.fl c.2.2.1++(e8.fl c.2.2.2.1++[v64 c.2.2.2.2])))))/\(∀c,r=some c->c.2.1.length=8/\c.2.2.1.length=8/\c.2.2.2.1.length=128)/\St [] d w (Cr u0 (r.map (fun c=>[H c.1]++(X.fl c.2.1++(e64.fl c.2.2.1++(e8.fl c.2.2.2.1++[v64 c.2.2.2.2])))))++[])):=by
 refine ax 27 Tryz.func73 Z Z Z<|have a:=St.k d;ay [(0,H a0)] Z ?_
 unfold F.Md at h
 refine R<|V 1 Z<|gl2<|V 1 Z<|O (bR (vs:=[(0,H a0,[H a0])]) (cells:=[H a0]++(X.fl (List.replicate 8 0)++(e64.fl (List.replicate 8 0)++(e8.fl (List.replicate 128 0)++[v64 0])))) Z FF ⟨Z,K⟩ (by kernel_rfl)) Z<|bl (cz (cs:=[H a0]++(X.fl (List.replicate 8 0)++(e64.fl (List.replicate 8 0)++(e8.fl (List.replicate 128 0)++[v64 0])))) Z Z a) Z fun e w a=>V 1 Z<|Q ?_
 refine aT (r:=r) (fun (g:Q0×List UInt64) L w=>L=[(3,P e 0)]/\g.1.length=8/\g.2.length=8/\St [] d w [Y e ([H a0]++(X.fl g.1++(e64.fl g.2++(e8.fl (List.replicate 128 0)++[v64 0]))))]) (F.LU a0) ?_ ?_
 rotate_left
 ·intro b
  refine R<|V 1 Z<|Q<|av<|R<|V 2 Z<|Q ?_
  apply gl9 Z h<;>intro h
  ·exact am<|V 1 Z<|O (fv (us:=X.fl F.G4) u150 Z iT (bk (show F.G4.length=8 from Z) Z) Z (f.sha_start256.cells a.fr)) Z<|O (aL Z) Z<|O (ak (k:=1) u169 Z Z iq Z) Z<|bo (fV (m:=8) (xs:=X.fl (List.replicate 8 0)) (xs':=X.fl F.G4) (i:=0) Z iT Z Z Z (Up.m (k:=1) Z Up.o Z) (bk List.length_replicate Z) (bk (show F.G4.length=8 from Z) Z) lZ a) fun w a=>aE<|aF<|al<|aA (b (F.G4,(List.replicate 8 0)) _ _ ⟨Z,(show F.G4.length=8 from Z),List.length_replicate,a⟩ h) Z
  refine R<|V 2 Z<|Q ?_
  apply gl9 Z h<;>intro h
  ·exact am<|V 1 Z<|O (fv (us:=e64.fl F.G3) u166 Z qi (bk (show F.G3.length=8 from Z) Z) Z (f.sha_start384.cells a.fr)) Z<|O (aL Z) Z<|O (ak (k:=9) u169 Z Z g8 Z) Z<|bo (fV (m:=8) (xs:=e64.fl (List.replicate 8 0)) (xs':=e64.fl F.G3) (i:=0) Z qi Z Z Z (Up.m (k:=1) Z (Up.m (k:=8) (bk List.length_replicate Z) Up.o Z) Z) (bk List.length_replicate Z) (bk (show F.G3.length=8 from Z) Z) lZ a) fun w a=>aE<|aF<|al<|aA (b ((List.replicate 8 0),F.G3) _ _ ⟨Z,List.length_replicate,(show F.G3.length=8 from Z),a⟩ h) Z
  refine R<|V 2 Z<|Q ?_
  apply gl9 Z h<;>intro h
  ·exact am<|V 1 Z<|O (fv (us:=e64.fl F.G5) u166 Z qi (bk (show F.G5.length=8 from Z) Z) Z (f.sha_start512.cells a.fr)) Z<|O (aL Z) Z<|O (ak (k:=9) u169 Z Z g8 Z) Z<|bo (fV (m:=8) (xs:=e64.fl (List.replicate 8 0)) (xs':=e64.fl F.G5) (i:=0) Z qi Z Z Z (Up.m (k:=1) Z (Up.m (k:=8) (bk List.length_replicate Z) Up.o Z) Z) (bk List.length_replicate Z) (bk (show F.G5.length=8 from Z) Z) lZ a) fun w a=>aE<|aF<|al<|aA (b ((List.replicate 8 0),F.G5) _ _ ⟨Z,List.length_replicate,(show F.G5.length=8 from Z),a⟩ h) Z
  refine R<|V 1 Z<|Q<|ar<|aZ<|aM ?_
  cases h
  exact au Z Z ⟨.pointer none,Z,Z,(fun c hc=>by cases hc),a.d [] Z Z⟩
 rintro⟨o,p⟩ L w n h
 try dsimp only at n
 obtain⟨rfl,j,l,a⟩:=n
 unfold F.LU at h
 refine R<|V 2 Z<|Q<|ar ?_
 cases h
 exact au Z Z ⟨P e 0,Z,⟨_,Z⟩,(fun c hc=>by cases hc; exact⟨j,l,List.length_replicate⟩),a.d [0] Z Z⟩
theorem nu {w0:World} {l:Nat} {S:Q2} (n:Int) (q:Q0) (g:List UInt64) (j:Q1) (o:UInt64) {r:Int×Q0×List UInt64×Q1×UInt64}
  (h:F.KS n q g j o=some r) (a:St S w0 w0 [Y l ([H n]++(X.fl q++(e64.fl g++(e8.fl j++[v64 o]))))]) (hT:TB S w0) (c:q.length=8) (y:g.length=8) (x:j.length=128):Calls Tryz.prog 156 #[P l 0] w0 (Ret fun v w=>v=.tuple #[]/\r.2.1.length=8/\r.2.2.1.length=8/\r.2.2.2.1.length=128/\St S w0 w [Y l ([H r.1]++(X.fl r.2.1++(e64.fl r.2.2.1++(e8.fl r.2.2.2.1++[v64 r.2.2.2.2]))))]):=by
 refine ax 221 Tryz.func156 Z Z Z<|ay [(0,P l 0)] Z ?_
 unfold F.KS at h
 refine R<|bl (bf (cs:=X.fl (List.replicate 64 0)) F4 (by kernel_rfl) a) Z fun D w a=>gl1<|R<|V 1 Z<|Q<|av<|ay [(0,P l 0),(2,P D 0),(21,H 0)] Z ?_
 refine bg (F.LF j q n g o) (fun (s:Int×Q0) L w=>L=[(0,P l 0),(2,P D 0),(21,H s.1)]/\s.2.length=64/\St S w0 w [Y l ([H n]++(X.fl q++(e64.fl g++(e8.fl j++[v64 o])))),Y D (X.fl s.2)]) ?_ (0,(List.replicate 64 0)) ⟨Z,List.length_replicate,(a.d [1,0] Z Z)⟩ h
 rintro cq ⟨cd,cf⟩ L w cD hI cg h bH
 try dsimp only at hI
 obtain⟨rfl,aO,a⟩:=hI
 unfold F.LF at h
 refine R<|V 1 Z<|gl1 ?_
 apply gl9 Z h<;>intro h
 ·refine gl5<|az<|av<|R<|V 2 Z<|gl2<|V 1 Z<|O (aL Z) Z<|O (ak (k:=17) u169 Z Z yh Z) Z<|V 1 Z<|O (aj Z Z (dV _ 4 cd)) Z<|M h fun cr z h=>O (FP (e:=e8) u167 sz5 Z Z Z x z) Z<|V 1 Z<|Q<|dB (fun w'=>St S w0 w' [Y l ([H n]++(X.fl q++(e64.fl g++(e8.fl j++[v64 o])))),Y D (X.fl cf)]) (fun i=>!([24].contains i)) bL (fun _ _ _ A=>A.2) (fun _ _ A=>A) (by kernel_rfl)<|have a:=a.drew;show lxE _ _ _ _ _ _ _ [0,1,2,3,4,5,6,7,8,9,10,11,12,13,14,15,16,17,18,19,20,21,22,23,24] _ _ from an 2 Z a<|M h fun ad aZ h=>J a Z Z (fun w b=>bh u25 ti5 Z Z ((b.bxroA 0 Z x (Up.m (k:=1) Z (Up.m (k:=8) (bk c Z) (Up.m (k:=8) (bk y Z) Up.o Z) Z) Z)).g_sll z) aZ) Z<|J a Z Z (fun w b=>aW Tryz.underlying5 Z Z ((b.bxroA 0 Z x (Up.m (k:=1) Z (Up.m (k:=8) (bk c Z) (Up.m (k:=8) (bk y Z) Up.o Z) Z) Z)).g_sll z) aZ Z) Z<|J a Z Z (fun w b=>aG Z (ma Tryz.underlying5 u106 ad)) Z<|J a Z Z (fun w b=>aj Z Z (kh _ ad.toUInt32 24)) Z<|an 1 Z a<|M h fun ae a0 h=>J a Z Z (fun w b=>bh u25 ti5 Z Z ((b.bxroA 0 Z x (Up.m (k:=1) Z (Up.m (k:=8) (bk c Z) (Up.m (k:=8) (bk y Z) Up.o Z) Z) Z)).g_sll z) a0) Z ?_
  refine J a Z Z (fun w b=>aW Tryz.underlying5 Z Z ((b.bxroA 0 Z x (Up.m (k:=1) Z (Up.m (k:=8) (bk c Z) (Up.m (k:=8) (bk y Z) Up.o Z) Z) Z)).g_sll z) a0 Z) Z<|J a Z Z (fun w b=>aG Z (ma Tryz.underlying5 u106 ae)) Z<|J a Z Z (fun w b=>aj Z Z (kh _ ae.toUInt32 16)) Z<|J a Z Z (fun w b=>aj Z Z (gy _ (cv ad.toUInt32 24) (cv ae.toUInt32 16))) Z<|an 1 Z a<|M h fun aA a1 h=>J a Z Z (fun w b=>bh u25 ti5 Z Z ((b.bxroA 0 Z x (Up.m (k:=1) Z (Up.m (k:=8) (bk c Z) (Up.m (k:=8) (bk y Z) Up.o Z) Z) Z)).g_sll z) a1) Z<|J a Z Z (fun w b=>aW Tryz.underlying5 Z Z ((b.bxroA 0 Z x (Up.m (k:=1) Z (Up.m (k:=8) (bk c Z) (Up.m (k:=8) (bk y Z) Up.o Z) Z) Z)).g_sll z) a1 Z) Z<|J a Z Z (fun w b=>aG Z (ma Tryz.underlying5 u106 aA)) Z<|J a Z Z (fun w b=>aj Z Z (kh _ aA.toUInt32 8)) Z<|J a Z Z (fun w b=>aj Z Z (gy _ ((cv ad.toUInt32 24) ||| (cv ae.toUInt32 16)) (cv aA.toUInt32 8))) Z<|an 1 Z a<|M h fun aP a2 h=>J a Z Z (fun w b=>bh u25 ti5 Z Z ((b.bxroA 0 Z x (Up.m (k:=1) Z (Up.m (k:=8) (bk c Z) (Up.m (k:=8) (bk y Z) Up.o Z) Z) Z)).g_sll z) a2) Z ?_
  refine J a Z Z (fun w b=>aW Tryz.underlying5 Z Z ((b.bxroA 0 Z x (Up.m (k:=1) Z (Up.m (k:=8) (bk c Z) (Up.m (k:=8) (bk y Z) Up.o Z) Z) Z)).g_sll z) a2 Z) Z<|J a Z Z (fun w b=>aG Z (ma Tryz.underlying5 u106 aP)) Z<|J a Z Z (fun w b=>aj Z Z (gy _ (((cv ad.toUInt32 24) ||| (cv ae.toUInt32 16)) ||| (cv aA.toUInt32 8)) aP.toUInt32)) Z<|M h fun ct a3 h=>J a Z Z (fun w b=>cb u206 dW Z Z (bT a3 aO)) Z<|gw a Z Z (fV (m:=1) Z dW Z Z Z (Up.elt (t':=((((cv ad.toUInt32 24) ||| (cv ae.toUInt32 16)) ||| (cv aA.toUInt32 8)) ||| aP.toUInt32)) Up.last a3 Z Z) Z Z (gL Z) a (i:=1)) fun w a=>bd h fun ch a4 h=>?_
  rw[a4]at a
  exact a9 K<|aF<|al<|am<|V 2 Z<|aE<|bn (br (cg (wI (cd+1),ch) _ _ ⟨Z,(by rw[<-a4,List.length_set]; exact aO),a⟩ (aX h bH)) Z)
 refine a7<|aB<|aB<|have h:=aS h bH;a8<|al<|az<|R<|V 1 Z<|Q<|av<|ay [(0,P l 0),(2,P D 0),(5,H 16)] Z ?_
 refine bg (F.IB q n g j o) (fun (s:Int×Q0) L w=>L=[(0,P l 0),(2,P D 0),(5,H s.1)]/\s.2.length=64/\St S w0 w [Y l ([H n]++(X.fl q++(e64.fl g++(e8.fl j++[v64 o])))),Y D (X.fl s.2)]) ?_ (16,cf) ⟨Z,aO,a⟩ h
 rintro cu ⟨ci,ah⟩ L w cw hI bX h a5
 try dsimp only at hI
 obtain⟨rfl,G,a⟩:=hI
 unfold F.IB at h
 refine az<|R<|V 2 Z<|Q ?_
 apply gl9 Z h<;>intro h
 ·refine gl5<|az<|av<|az<|aQ (fun w'=>St S w0 w' [Y l ([H n]++(X.fl q++(e64.fl g++(e8.fl j++[v64 o])))),Y D (X.fl ah)]) (fun _=>true) bL (fun _ _ _ A=>A.2) (fun _ _ A=>A) (by kernel_rfl)<|have a:=a.drew;show lxE _ _ _ _ _ _ _ [0,1,2,3,4,5,6,7,8,9] _ _ from an 2 Z a<|M h fun ac a6 h=>J a Z Z (fun w b=>cb u206 dW Z Z (bT a6 G)) Z<|J a Z Z (fun w b=>ao u106 Z Z (b.r 1 Z (Up.elr Up.last a6 Z))) Z<|an 2 Z a<|M h fun ap ba h=>J a Z Z (fun w b=>cb u206 dW Z Z (bT ba G)) Z<|J a Z Z (fun w b=>ao u106 Z Z (b.r 1 Z (Up.elr Up.last ba Z))) Z<|an 2 Z a<|a9 a<|al<|dB (fun w'=>St S w0 w' [Y l ([H n]++(X.fl q++(e64.fl g++(e8.fl j++[v64 o])))),Y D (X.fl ah)]) (fun i=>!([11,13,20,22,29].contains i)) bL (fun _ _ _ A=>A.2) (fun _ _ A=>A) (by kernel_rfl)<|have a:=a.drew;show lxE _ _ _ _ _ _ _ [0,1,2,3,4,5,6,7,8,9,10,11,12,13,14,15,16,17,18,19,20,21,22,23,24,25,26,27,28,29] _ _ from an 3 Z a<|M h fun aJ bb h=>J a Z Z (fun w b=>cb u206 dW Z Z (bT bb G)) Z<|J a Z Z (fun w b=>ao u106 Z Z (b.r 1 Z (Up.elr Up.last bb Z))) Z<|an 2 Z a ?_
  refine M h fun aK be h=>J a Z Z (fun w b=>cb u206 dW Z Z (bT be G)) Z<|J a Z Z (fun w b=>ao u106 Z Z (b.r 1 Z (Up.elr Up.last be Z))) Z<|J a Z Z (fun w b=>aj Z Z (eR _ aJ aK)) Z<|an 1 Z a<|M h fun aC bY h=>aY a Z Z (by kernel_rfl) Z (ce ac (-7) bY ) Z ?_
  rintro _ w ⟨rfl,E⟩
  have a:=a.e E
  refine an 1 Z a<|M h fun aD bZ h=>aY a Z Z (by kernel_rfl) Z (ce ac (-18) bZ ) Z ?_
  rintro _ w ⟨rfl,E⟩
  have a:=a.e E
  refine J a Z Z (fun w b=>aj Z Z (fZ _ aC aD)) Z<|an 1 Z a<|J a Z Z (fun w b=>aj Z Z (di _ ac 3)) Z<|J a Z Z (fun w b=>aj Z Z (fZ _ (aC ^^^ aD) (bu ac 3))) Z<|J a Z Z (fun w b=>aj Z Z (eR _ (aJ+aK) ((aC ^^^ aD) ^^^ (bu ac 3)))) Z<|an 1 Z a<|M h fun aM b0 h=>aY a Z Z (by kernel_rfl) Z (ce ap (-17) b0 ) Z ?_
  rintro _ w ⟨rfl,E⟩
  have a:=a.e E
  refine an 1 Z a<|M h fun aN b1 h=>aY a Z Z (by kernel_rfl) Z (ce ap (-19) b1 ) Z ?_
  rintro _ w ⟨rfl,E⟩
  have a:=a.e E
  refine J a Z Z (fun w b=>aj Z Z (fZ _ aM aN)) Z<|an 1 Z a<|J a Z Z (fun w b=>aj Z Z (di _ ap 10)) Z<|J a Z Z (fun w b=>aj Z Z (fZ _ (aM ^^^ aN) (bu ap 10))) Z<|J a Z Z (fun w b=>aj Z Z (eR _ ((aJ+aK)+((aC ^^^ aD) ^^^ (bu ac 3))) ((aM ^^^ aN) ^^^ (bu ap 10)))) Z<|M h fun cx bi h=>J a Z Z (fun w b=>cb u206 dW Z Z (bT bi G)) Z<|gw a Z Z (fV (m:=1) Z dW Z Z Z (Up.elt (t':=(((aJ+aK)+((aC ^^^ aD) ^^^ (bu ac 3)))+((aM ^^^ aN) ^^^ (bu ap 10)))) Up.last bi Z Z) Z Z (gL Z) a (i:=1)) fun w a=>bd h fun cj bj h=>?_
  rw[bj]at a
  exact a9 K<|aF<|al<|am<|V 3 Z<|aE<|bn (br (bX (wI (ci+1),cj) _ _ ⟨Z,(by rw[<-bj,List.length_set]; exact G),a⟩ (aX h a5)) Z)
 refine a7<|aB<|aB<|have h:=aS h a5;a8<|al<|az<|aQ (fun w'=>St S w0 w' [Y l ([H n]++(X.fl q++(e64.fl g++(e8.fl j++[v64 o])))),Y D (X.fl ah)]) (fun _=>true) bL (fun _ _ _ A=>A.2) (fun _ _ A=>A) (by kernel_rfl)<|have a:=a.drew;show lxE _ _ _ _ _ _ _ [0,1,2,3,4,5,6,7,8,9,10,11,12,13,14,15,16,17,18,19,20,21,22,23,24,25,26,27,28,29,30,31,32,33,34,35,36,37,38,39,40,41,42,43,44,45,46,47] _ _ from an 1 Z a<|J a Z Z (fun w b=>aL Z) Z<|J a Z Z (fun w b=>ak (k:=1) u169 Z Z iq Z) Z<|M h fun bI bm h=>J a Z Z (fun w b=>cb u150 dW Z Z (bT bm c)) Z<|J a Z Z (fun w b=>ao u106 Z Z (b.r 0 Z (Up.elr (Up.m (k:=1) Z Up.o Z) bm Z))) Z<|an 1 Z a<|J a Z Z (fun w b=>aL Z) Z<|J a Z Z (fun w b=>ak (k:=1) u169 Z Z iq Z) Z<|M h fun bJ bo h=>J a Z Z (fun w b=>cb u150 dW Z Z (bT bo c)) Z<|J a Z Z (fun w b=>ao u106 Z Z (b.r 0 Z (Up.elr (Up.m (k:=1) Z Up.o Z) bo Z))) Z<|an 1 Z a<|J a Z Z (fun w b=>aL Z) Z<|J a Z Z (fun w b=>ak (k:=1) u169 Z Z iq Z) Z<|M h fun bK bp h=>J a Z Z (fun w b=>cb u150 dW Z Z (bT bp c)) Z ?_
 refine J a Z Z (fun w b=>ao u106 Z Z (b.r 0 Z (Up.elr (Up.m (k:=1) Z Up.o Z) bp Z))) Z<|an 1 Z a<|J a Z Z (fun w b=>aL Z) Z<|J a Z Z (fun w b=>ak (k:=1) u169 Z Z iq Z) Z<|M h fun bM bq h=>J a Z Z (fun w b=>cb u150 dW Z Z (bT bq c)) Z<|J a Z Z (fun w b=>ao u106 Z Z (b.r 0 Z (Up.elr (Up.m (k:=1) Z Up.o Z) bq Z))) Z<|an 1 Z a<|J a Z Z (fun w b=>aL Z) Z<|J a Z Z (fun w b=>ak (k:=1) u169 Z Z iq Z) Z<|M h fun bN bs h=>J a Z Z (fun w b=>cb u150 dW Z Z (bT bs c)) Z<|J a Z Z (fun w b=>ao u106 Z Z (b.r 0 Z (Up.elr (Up.m (k:=1) Z Up.o Z) bs Z))) Z<|an 1 Z a<|J a Z Z (fun w b=>aL Z) Z<|J a Z Z (fun w b=>ak (k:=1) u169 Z Z iq Z) Z<|M h fun bO bt h=>J a Z Z (fun w b=>cb u150 dW Z Z (bT bt c)) Z<|J a Z Z (fun w b=>ao u106 Z Z (b.r 0 Z (Up.elr (Up.m (k:=1) Z Up.o Z) bt Z))) Z<|an 1 Z a<|J a Z Z (fun w b=>aL Z) Z<|J a Z Z (fun w b=>ak (k:=1) u169 Z Z iq Z) Z<|M h fun bP bv h=>?_
 refine J a Z Z (fun w b=>cb u150 dW Z Z (bT bv c)) Z<|J a Z Z (fun w b=>ao u106 Z Z (b.r 0 Z (Up.elr (Up.m (k:=1) Z Up.o Z) bv Z))) Z<|an 1 Z a<|J a Z Z (fun w b=>aL Z) Z<|J a Z Z (fun w b=>ak (k:=1) u169 Z Z iq Z) Z<|M h fun bQ bw h=>J a Z Z (fun w b=>cb u150 dW Z Z (bT bw c)) Z<|J a Z Z (fun w b=>ao u106 Z Z (b.r 0 Z (Up.elr (Up.m (k:=1) Z Up.o Z) bw Z))) Z<|an 8 Z a<|a9 a<|al<|az<|R<|V 1 Z<|Q<|av<|ay [(0,P l 0),(2,P D 0),(8,v32 bI),(9,v32 bJ),(10,v32 bK),(11,v32 bM),(12,v32 bN),(13,v32 bO),(14,v32 bP),(15,v32 bQ),(136,H 0)] Z ?_
 refine bg (F.Kr q ah n g j o) (fun (s:UInt32×UInt32×UInt32×UInt32×UInt32×UInt32×UInt32×UInt32×Int) L w=>L=[(0,P l 0),(2,P D 0),(8,v32 s.1),(9,v32 s.2.1),(10,v32 s.2.2.1),(11,v32 s.2.2.2.1),(12,v32 s.2.2.2.2.1),(13,v32 s.2.2.2.2.2.1),(14,v32 s.2.2.2.2.2.2.1),(15,v32 s.2.2.2.2.2.2.2.1),(136,H s.2.2.2.2.2.2.2.2)]/\St S w0 w [Y l ([H n]++(X.fl q++(e64.fl g++(e8.fl j++[v64 o])))),Y D (X.fl ah)]) ?_ (bI,bJ,bK,bM,bN,bO,bP,bQ,0) ⟨Z,a⟩ h
 rintro cy ⟨d,t,B,T,p,u,f,C,ck⟩ L w cz hI b2 h bz
 try dsimp only at hI
 obtain⟨rfl,a⟩:=hI
 unfold F.Kr at h
 refine R<|V 1 Z<|gl1 ?_
 apply gl9 Z h<;>intro h
 ·refine gl5<|az<|av<|R<|V 2 Z<|gl1<|aQ (fun w'=>St S w0 w' [Y l ([H n]++(X.fl q++(e64.fl g++(e8.fl j++[v64 o])))),Y D (X.fl ah)]) (fun i=>!([2,4,7].contains i)) bL (fun _ _ _ A=>A.2) (fun _ _ A=>A) (by kernel_rfl)<|have a:=a.drew;show lxE _ _ _ _ _ _ _ [0,1,2,3,4,5,6,7,8,9,10,11,12,13,14,15,16,17,18,19,20,21,22,23,24,25,26] _ _ from an 2 Z a<|M h fun aq b3 h=>aY a Z Z (by kernel_rfl) Z (ce p (-6) b3 ) Z ?_
  rintro _ w ⟨rfl,E⟩
  have a:=a.e E
  refine an 1 Z a<|M h fun ar b4 h=>aY a Z Z (by kernel_rfl) Z (ce p (-11) b4 ) Z ?_
  rintro _ w ⟨rfl,E⟩
  have a:=a.e E
  refine J a Z Z (fun w b=>aj Z Z (fZ _ aq ar)) Z<|an 1 Z a<|M h fun aH b5 h=>aY a Z Z (by kernel_rfl) Z (ce p (-25) b5 ) Z ?_
  rintro _ w ⟨rfl,E⟩
  have a:=a.e E
  refine J a Z Z (fun w b=>aj Z Z (fZ _ (aq ^^^ ar) aH)) Z<|J a Z Z (fun w b=>aj Z Z (eR _ C ((aq ^^^ ar) ^^^ aH))) Z<|an 4 Z a<|J a Z Z (fun w b=>aj Z Z (fZ _ u f)) Z<|J a Z Z (fun w b=>aj Z Z (kr _ p (u ^^^ f))) Z<|J a Z Z (fun w b=>aj Z Z (fZ _ f (p &&& (u ^^^ f)))) Z<|J a Z Z (fun w b=>aj Z Z (eR _ (C+((aq ^^^ ar) ^^^ aH)) (f ^^^ (p &&& (u ^^^ f))))) Z<|an 1 Z a<|M h fun bS bA h=>J a Z Z (fun w b=>cb u206 dW Z Z (bT bA (show F.H3.length=64 from Z))) Z<|J a Z Z (fun w b=>ao u106 Z Z (hT.sha_k256.cell b.fr bA Z)) Z<|J a Z Z (fun w b=>aj Z Z (eR _ ((C+((aq ^^^ ar) ^^^ aH))+(f ^^^ (p &&& (u ^^^ f)))) bS)) Z<|an 1 Z a<|M h fun cl bB h=>J a Z Z (fun w b=>cb u206 dW Z Z (bT bB G)) Z<|J a Z Z (fun w b=>ao u106 Z Z (b.r 1 Z (Up.elr Up.last bB Z))) Z<|J a Z Z (fun w b=>aj Z Z (eR _ (((C+((aq ^^^ ar) ^^^ aH))+(f ^^^ (p &&& (u ^^^ f))))+bS) cl)) Z<|bd h fun aI b6 h=>J a Z Z (fun w b=>bc (v:=v32 aI) (by rw[<-b6]; rfl)) Z<|a9 a<|al<|R<|V 1 Z ?_
  exact M h fun aT b7 h=>aR a Z (ce d (-2) b7 ) Z fun w a=>V 1 Z<|M h fun aU b8 h=>aR a Z (ce d (-13) b8 ) Z fun w a=>O (aj Z Z (fZ _ aT aU)) Z<|V 1 Z<|M h fun bU b9 h=>aR a Z (ce d (-22) b9 ) Z fun w a=>O (aj Z Z (fZ _ (aT ^^^ aU) bU)) Z<|V 2 Z<|O (aj Z Z (kr _ d t)) Z<|V 3 Z<|O (aj Z Z (gy _ d t)) Z<|O (aj Z Z (kr _ B (d ||| t))) Z<|O (aj Z Z (gy _ (d &&& t) (B &&& (d ||| t)))) Z<|O (aj Z Z (eR _ ((aT ^^^ aU) ^^^ bU) ((d &&& t) ||| (B &&& (d ||| t))))) Z<|bd h fun aV ca h=>O (bc (v:=v32 aV) (by rw[<-ca]; rfl)) Z<|Q<|am<|V 5 Z<|O (aj Z Z (eR _ T aI)) Z<|V 5 Z<|O (aj Z Z (eR _ aI aV)) Z<|V 8 Z<|aE<|aF<|al<|am<|V 2 Z<|aE<|bn (br (b2 (aI+aV,d,t,B,T+aI,p,u,f,wI (ck+1)) _ _ ⟨Z,a⟩ (aX h bz)) Z)
 refine a7<|aB<|aB<|have h:=aS h bz;a8<|al<|R<|V 8 Z<|O (bR (vs:=[(0,v32 d,[v32 d]),(1,v32 t,[v32 t]),(2,v32 B,[v32 B]),(3,v32 T,[v32 T]),(4,v32 p,[v32 p]),(5,v32 u,[v32 u]),(6,v32 f,[v32 f]),(7,v32 C,[v32 C])]) (cells:=[v32 d,v32 t,v32 B,v32 T,v32 p,v32 u,v32 f,v32 C]) Z EL ⟨Z,Z,Z,Z,Z,Z,Z,Z,K⟩ (by kernel_rfl)) Z<|V 1 Z<|Q<|av<|ay [(0,P l 0),(204,.agg #[v32 d,v32 t,v32 B,v32 T,v32 p,v32 u,v32 f,v32 C]),(205,H 0)] Z ?_
 refine bg (F.JI n g j o d t B T p u f C) (fun (s:Int×Q0) L w=>L=[(0,P l 0),(204,.agg #[v32 d,v32 t,v32 B,v32 T,v32 p,v32 u,v32 f,v32 C]),(205,H s.1)]/\s.2.length=8/\St S w0 w [Y l ([H n]++(X.fl s.2++(e64.fl g++(e8.fl j++[v64 o]))))]) ?_ (0,q) ⟨Z,c,(a.d [0] Z Z)⟩ h
 rintro cA ⟨cm,cn⟩ L w cB hI cc h bC
 try dsimp only at hI
 obtain⟨rfl,au,a⟩:=hI
 unfold F.JI at h
 refine R<|V 1 Z<|gl1 ?_
 apply gl9 Z h<;>intro h
 ·refine gl5<|az<|av<|R<|V 1 Z<|M h fun bV bD h=>O (mN (cs:=(X.fl ([d,t,B,T,p,u,f,C]:Q0)).toArray) u150 u106 Z dW Z Z (bT bD Z) (o7 bD Z)) Z<|V 2 Z<|Q<|dB (fun w'=>St S w0 w' [Y l ([H n]++(X.fl cn++(e64.fl g++(e8.fl j++[v64 o]))))]) (fun i=>!([11].contains i)) bL (fun _ _ _ A=>A.2) (fun _ _ A=>A) (by kernel_rfl)<|have a:=a.drew;show lxE _ _ _ _ _ _ _ [0,1,2,3,4,5,6,7,8,9,10,11] _ _ from an 2 Z a<|J a Z Z (fun w b=>aL Z) Z<|J a Z Z (fun w b=>ak (k:=1) u169 Z Z iq Z) Z<|M h fun bW bE h=>J a Z Z (fun w b=>cb u150 dW Z Z (bT bE au)) Z<|J a Z Z (fun w b=>ao u106 Z Z (b.r 0 Z (Up.elr (Up.m (k:=1) Z Up.o Z) bE Z))) Z<|an 1 Z a<|J a Z Z (fun w b=>aj Z Z (eR _ bW bV)) Z<|J a Z Z (fun w b=>aL Z) Z<|J a Z Z (fun w b=>ak (k:=1) u169 Z Z iq Z) Z<|M h fun cC bF h=>J a Z Z (fun w b=>cb u150 dW Z Z (bT bF au)) Z<|gw a Z Z (fV (m:=1) Z dW Z Z Z (Up.elt (t':=(bW+bV)) (Up.m (k:=1) Z Up.o Z) bF Z Z) Z Z (gL Z) a (i:=0)) ?_
  intro w a
  obtain⟨co,bG,h⟩:=fF h
  rw[bG]at a
  exact a9 K<|aF<|al<|am<|V 2 Z<|aE<|bn (br (cc (wI (cm+1),co) _ _ ⟨Z,(by rw[<-bG,List.length_set]; exact au),a⟩ (aX h bC)) Z)
 refine a7<|aB<|aB<|have h:=aS h bC;a8 ?_
 cases h
 exact gt Z ⟨Z,au,y,x,a.d [0] Z Z⟩
theorem nq {T:World} {c:Nat} {S:Q2} (n:Int) (j:Q0) (t:List UInt64) (l:Q1) (o:UInt64) {r:Int×Q0×List UInt64×Q1×UInt64}
  (h:F.LG n j t l o=some r) (a:St S T T [Y c ([H n]++(X.fl j++(e64.fl t++(e8.fl l++[v64 o]))))]) (hT:TB S T) (g:j.length=8) (q:t.length=8) (ac:l.length=128):Calls Tryz.prog 157 #[P c 0] T (Ret fun v w=>v=.tuple #[]/\r.2.1.length=8/\r.2.2.1.length=8/\r.2.2.2.1.length=128/\St S T w [Y c ([H r.1]++(X.fl r.2.1++(e64.fl r.2.2.1++(e8.fl r.2.2.2.1++[v64 r.2.2.2.2]))))]):=by
 refine ax 216 Tryz.func157 Z Z Z<|ay [(0,P c 0)] Z ?_
 unfold F.LG at h
 refine R<|bl (bf (cs:=e64.fl (List.replicate 80 0)) FU (by kernel_rfl) a) Z fun y w a=>gl1<|R<|V 1 Z<|Q<|av<|ay [(0,P c 0),(2,P y 0),(22,H 0)] Z ?_
 refine bg (F.K9 l t n j o) (fun (s:Int×List UInt64) L w=>L=[(0,P c 0),(2,P y 0),(22,H s.1)]/\s.2.length=80/\St S T w [Y c ([H n]++(X.fl j++(e64.fl t++(e8.fl l++[v64 o])))),Y y (e64.fl s.2)]) ?_ (0,(List.replicate 80 0)) ⟨Z,List.length_replicate,(a.d [1,0] Z Z)⟩ h
 rintro cy ⟨G,cj⟩ L w cL hI ck h bJ
 try dsimp only at hI
 obtain⟨rfl,bK,a⟩:=hI
 unfold F.K9 at h
 refine R<|V 1 Z<|gl1 ?_
 apply gl9 Z h<;>intro h
 ·refine gl5<|az<|av<|R<|V 2 Z<|gl2<|V 1 Z<|O (aL Z) Z<|O (ak (k:=17) u169 Z Z yh Z) Z<|V 1 Z<|O (aj Z Z (dV _ 8 G)) Z<|V 1 Z<|O (aj Z Z (dV _ 8 G)) Z<|V 1 Z<|M h fun aT ar h=>O (Fs (e:=e8) u167 sz5 Z Z Z Z ac ar) Z<|O (aD u25 Z ((a.bxroA 0 Z ac (Up.m (k:=1) Z (Up.m (k:=8) (bk g Z) (Up.m (k:=8) (bk q Z) Up.o Z) Z) Z)).g_sl ar)) Z<|V 1 Z<|Q<|av<|ay [(0,P c 0),(2,P y 0),(3,H G),(22,H G),(33,slV (.slice (some ⟨c,17,none⟩) 128 128) e8.sz ((wI (8*G):Int).toNat) ((wI ((wI (8*G))+8):Int).toNat)),(34,H (aT.length:Int)),(35,H 0)] Z ?_
  refine bg (F.JJ G aT) (fun (s:Int×List UInt64) L w=>L=[(0,P c 0),(2,P y 0),(3,H G),(22,H G),(33,slV (.slice (some ⟨c,17,none⟩) 128 128) e8.sz ((wI (8*G):Int).toNat) ((wI ((wI (8*G))+8):Int).toNat)),(34,H (aT.length:Int)),(35,H s.1)]/\s.2.length=80/\St S T w [Y c ([H n]++(X.fl j++(e64.fl t++(e8.fl l++[v64 o])))),Y y (e64.fl s.2)]) ?_ (0,cj) ⟨Z,bK,a⟩ h
  rintro cz ⟨cl,cm⟩ L w cA hI b0 h a2
  try dsimp only at hI
  obtain⟨rfl,au,a⟩:=hI
  unfold F.JJ at h
  refine R<|V 1 Z<|gl1 ?_
  apply gl9 Z h<;>intro h
  ·refine gl5<|az<|av<|R<|M h fun aU a3 h=>O (bh u25 ti5 Z Z ((a.bxroA 0 Z ac (Up.m (k:=1) Z (Up.m (k:=8) (bk g Z) (Up.m (k:=8) (bk q Z) Up.o Z) Z) Z)).g_sl ar) a3) Z<|O (aW Tryz.underlying5 Z Z ((a.bxroA 0 Z ac (Up.m (k:=1) Z (Up.m (k:=8) (bk g Z) (Up.m (k:=8) (bk q Z) Up.o Z) Z) Z)).g_sl ar) a3 Z) Z<|V 1 Z<|Q<|am<|V 2 Z<|M h fun aV a4 h=>O (cb u208 dR Z Z (bT a4 au)) Z<|O (ao u103 Z Z (a.r 1 Z (Up.elr Up.last a4 Z))) Z<|O (aj Z Z (cr _ aV 8)) Z<|V 1 Z<|O (aG Z (mh Tryz.underlying5 u103 aU)) Z<|O (aj Z Z (dO _ (aH aV 8) aU.toUInt64)) Z<|M h fun cB a5 h=>O (cb u208 dR Z Z (bT a5 au)) Z<|bo (fV (m:=1) Z dR Z Z Z (Up.elt (t':=((aH aV 8) ||| aU.toUInt64)) Up.last a5 Z Z) Z Z (gL Z) a (i:=1)) fun w a=>bd h fun cn a6 h=>?_
   rw[a6]at a
   exact aE<|aF<|al<|am<|V 2 Z<|aE<|bn (br (b0 (wI (cl+1),cn) _ _ ⟨Z,(by rw[<-a6,List.length_set]; exact au),a⟩ (aX h a2)) Z)
  exact a7<|aB<|aB<|have h:=aS h a2;a8<|aF<|al<|am<|V 2 Z<|aE<|bn (br (ck (wI (G+1),cm) _ _ ⟨Z,au,a⟩ (aX h bJ)) Z)
 refine a7<|aB<|aB<|have h:=aS h bJ;a8<|al<|az<|R<|V 1 Z<|Q<|av<|ay [(0,P c 0),(2,P y 0),(6,H 16)] Z ?_
 refine bg (F.Ij t n j l o) (fun (s:Int×List UInt64) L w=>L=[(0,P c 0),(2,P y 0),(6,H s.1)]/\s.2.length=80/\St S T w [Y c ([H n]++(X.fl j++(e64.fl t++(e8.fl l++[v64 o])))),Y y (e64.fl s.2)]) ?_ (16,cj) ⟨Z,bK,a⟩ h
 rintro cC ⟨co,ae⟩ L w cE hI b1 h ba
 try dsimp only at hI
 obtain⟨rfl,C,a⟩:=hI
 unfold F.Ij at h
 refine az<|R<|V 2 Z<|Q ?_
 apply gl9 Z h<;>intro h
 ·refine gl5<|az<|av<|az<|aQ (fun w'=>St S T w' [Y c ([H n]++(X.fl j++(e64.fl t++(e8.fl l++[v64 o])))),Y y (e64.fl ae)]) (fun _=>true) bL (fun _ _ _ D=>D.2) (fun _ _ D=>D) (by kernel_rfl)<|have a:=a.drew;show lxE _ _ _ _ _ _ _ [0,1,2,3,4,5,6,7,8,9] _ _ from an 2 Z a<|M h fun ab bb h=>J a Z Z (fun w b=>cb u208 dR Z Z (bT bb C)) Z<|J a Z Z (fun w b=>ao u103 Z Z (b.r 1 Z (Up.elr Up.last bb Z))) Z<|an 2 Z a<|M h fun ah be h=>J a Z Z (fun w b=>cb u208 dR Z Z (bT be C)) Z<|J a Z Z (fun w b=>ao u103 Z Z (b.r 1 Z (Up.elr Up.last be Z))) Z<|an 2 Z a<|a9 a<|al<|dB (fun w'=>St S T w' [Y c ([H n]++(X.fl j++(e64.fl t++(e8.fl l++[v64 o])))),Y y (e64.fl ae)]) (fun i=>!([11,13,20,22,29].contains i)) bL (fun _ _ _ D=>D.2) (fun _ _ D=>D) (by kernel_rfl)<|have a:=a.drew;show lxE _ _ _ _ _ _ _ [0,1,2,3,4,5,6,7,8,9,10,11,12,13,14,15,16,17,18,19,20,21,22,23,24,25,26,27,28,29] _ _ from an 3 Z a<|M h fun aK bi h=>J a Z Z (fun w b=>cb u208 dR Z Z (bT bi C)) Z<|J a Z Z (fun w b=>ao u103 Z Z (b.r 1 Z (Up.elr Up.last bi Z))) Z<|an 2 Z a ?_
  refine M h fun aM bj h=>J a Z Z (fun w b=>cb u208 dR Z Z (bT bj C)) Z<|J a Z Z (fun w b=>ao u103 Z Z (b.r 1 Z (Up.elr Up.last bj Z))) Z<|J a Z Z (fun w b=>aj Z Z (cD _ aK aM)) Z<|an 1 Z a<|M h fun aA b2 h=>aY a Z Z (by kernel_rfl) Z (cf ab (-1) b2 ) Z ?_
  rintro _ w ⟨rfl,B⟩
  have a:=a.e B
  refine an 1 Z a<|M h fun aC b3 h=>aY a Z Z (by kernel_rfl) Z (cf ab (-8) b3 ) Z ?_
  rintro _ w ⟨rfl,B⟩
  have a:=a.e B
  refine J a Z Z (fun w b=>aj Z Z (fR _ aA aC)) Z<|an 1 Z a<|J a Z Z (fun w b=>aj Z Z (cc _ ab 7)) Z<|J a Z Z (fun w b=>aj Z Z (fR _ (aA ^^^ aC) (aP ab 7))) Z<|J a Z Z (fun w b=>aj Z Z (cD _ (aK+aM) ((aA ^^^ aC) ^^^ (aP ab 7)))) Z<|an 1 Z a<|M h fun aN b4 h=>aY a Z Z (by kernel_rfl) Z (cf ah (-19) b4 ) Z ?_
  rintro _ w ⟨rfl,B⟩
  have a:=a.e B
  refine an 1 Z a<|M h fun aO b5 h=>aY a Z Z (by kernel_rfl) Z (cf ah (-61) b5 ) Z ?_
  rintro _ w ⟨rfl,B⟩
  have a:=a.e B
  refine J a Z Z (fun w b=>aj Z Z (fR _ aN aO)) Z<|an 1 Z a<|J a Z Z (fun w b=>aj Z Z (cc _ ah 6)) Z<|J a Z Z (fun w b=>aj Z Z (fR _ (aN ^^^ aO) (aP ah 6))) Z<|J a Z Z (fun w b=>aj Z Z (cD _ ((aK+aM)+((aA ^^^ aC) ^^^ (aP ab 7))) ((aN ^^^ aO) ^^^ (aP ah 6)))) Z<|M h fun cF bm h=>J a Z Z (fun w b=>cb u208 dR Z Z (bT bm C)) Z<|gw a Z Z (fV (m:=1) Z dR Z Z Z (Up.elt (t':=(((aK+aM)+((aA ^^^ aC) ^^^ (aP ab 7)))+((aN ^^^ aO) ^^^ (aP ah 6)))) Up.last bm Z Z) Z Z (gL Z) a (i:=1)) fun w a=>bd h fun cp bp h=>?_
  rw[bp]at a
  exact a9 K<|aF<|al<|am<|V 3 Z<|aE<|bn (br (b1 (wI (co+1),cp) _ _ ⟨Z,(by rw[<-bp,List.length_set]; exact C),a⟩ (aX h ba)) Z)
 refine a7<|aB<|aB<|have h:=aS h ba;a8<|al<|az<|aQ (fun w'=>St S T w' [Y c ([H n]++(X.fl j++(e64.fl t++(e8.fl l++[v64 o])))),Y y (e64.fl ae)]) (fun _=>true) bL (fun _ _ _ D=>D.2) (fun _ _ D=>D) (by kernel_rfl)<|have a:=a.drew;show lxE _ _ _ _ _ _ _ [0,1,2,3,4,5,6,7,8,9,10,11,12,13,14,15,16,17,18,19,20,21,22,23,24,25,26,27,28,29,30,31,32,33,34,35,36,37,38,39,40,41,42,43,44,45,46,47] _ _ from an 1 Z a<|J a Z Z (fun w b=>aL Z) Z<|J a Z Z (fun w b=>ak (k:=9) u169 Z Z g8 Z) Z<|M h fun bM bq h=>J a Z Z (fun w b=>cb u166 dR Z Z (bT bq q)) Z<|J a Z Z (fun w b=>ao u103 Z Z (b.r 0 Z (Up.elr (Up.m (k:=1) Z (Up.m (k:=8) (bk g Z) Up.o Z) Z) bq Z))) Z<|an 1 Z a<|J a Z Z (fun w b=>aL Z) Z<|J a Z Z (fun w b=>ak (k:=9) u169 Z Z g8 Z) Z<|M h fun bN bs h=>J a Z Z (fun w b=>cb u166 dR Z Z (bT bs q)) Z<|J a Z Z (fun w b=>ao u103 Z Z (b.r 0 Z (Up.elr (Up.m (k:=1) Z (Up.m (k:=8) (bk g Z) Up.o Z) Z) bs Z))) Z<|an 1 Z a<|J a Z Z (fun w b=>aL Z) Z<|J a Z Z (fun w b=>ak (k:=9) u169 Z Z g8 Z) Z ?_
 refine M h fun bO bt h=>J a Z Z (fun w b=>cb u166 dR Z Z (bT bt q)) Z<|J a Z Z (fun w b=>ao u103 Z Z (b.r 0 Z (Up.elr (Up.m (k:=1) Z (Up.m (k:=8) (bk g Z) Up.o Z) Z) bt Z))) Z<|an 1 Z a<|J a Z Z (fun w b=>aL Z) Z<|J a Z Z (fun w b=>ak (k:=9) u169 Z Z g8 Z) Z<|M h fun bP bu h=>J a Z Z (fun w b=>cb u166 dR Z Z (bT bu q)) Z<|J a Z Z (fun w b=>ao u103 Z Z (b.r 0 Z (Up.elr (Up.m (k:=1) Z (Up.m (k:=8) (bk g Z) Up.o Z) Z) bu Z))) Z<|an 1 Z a<|J a Z Z (fun w b=>aL Z) Z<|J a Z Z (fun w b=>ak (k:=9) u169 Z Z g8 Z) Z<|M h fun bQ bv h=>J a Z Z (fun w b=>cb u166 dR Z Z (bT bv q)) Z<|J a Z Z (fun w b=>ao u103 Z Z (b.r 0 Z (Up.elr (Up.m (k:=1) Z (Up.m (k:=8) (bk g Z) Up.o Z) Z) bv Z))) Z<|an 1 Z a<|J a Z Z (fun w b=>aL Z) Z<|J a Z Z (fun w b=>ak (k:=9) u169 Z Z g8 Z) Z<|M h fun bS bw h=>J a Z Z (fun w b=>cb u166 dR Z Z (bT bw q)) Z<|J a Z Z (fun w b=>ao u103 Z Z (b.r 0 Z (Up.elr (Up.m (k:=1) Z (Up.m (k:=8) (bk g Z) Up.o Z) Z) bw Z))) Z ?_
 refine an 1 Z a<|J a Z Z (fun w b=>aL Z) Z<|J a Z Z (fun w b=>ak (k:=9) u169 Z Z g8 Z) Z<|M h fun bU bz h=>J a Z Z (fun w b=>cb u166 dR Z Z (bT bz q)) Z<|J a Z Z (fun w b=>ao u103 Z Z (b.r 0 Z (Up.elr (Up.m (k:=1) Z (Up.m (k:=8) (bk g Z) Up.o Z) Z) bz Z))) Z<|an 1 Z a<|J a Z Z (fun w b=>aL Z) Z<|J a Z Z (fun w b=>ak (k:=9) u169 Z Z g8 Z) Z<|M h fun bV bA h=>J a Z Z (fun w b=>cb u166 dR Z Z (bT bA q)) Z<|J a Z Z (fun w b=>ao u103 Z Z (b.r 0 Z (Up.elr (Up.m (k:=1) Z (Up.m (k:=8) (bk g Z) Up.o Z) Z) bA Z))) Z<|an 8 Z a<|a9 a<|al<|az<|R<|V 1 Z<|Q<|av<|ay [(0,P c 0),(2,P y 0),(9,v64 bM),(10,v64 bN),(11,v64 bO),(12,v64 bP),(13,v64 bQ),(14,v64 bS),(15,v64 bU),(16,v64 bV),(131,H 0)] Z ?_
 refine bg (F.KL t ae n j l o) (fun (s:UInt64×UInt64×UInt64×UInt64×UInt64×UInt64×UInt64×UInt64×Int) L w=>L=[(0,P c 0),(2,P y 0),(9,v64 s.1),(10,v64 s.2.1),(11,v64 s.2.2.1),(12,v64 s.2.2.2.1),(13,v64 s.2.2.2.2.1),(14,v64 s.2.2.2.2.2.1),(15,v64 s.2.2.2.2.2.2.1),(16,v64 s.2.2.2.2.2.2.2.1),(131,H s.2.2.2.2.2.2.2.2)]/\St S T w [Y c ([H n]++(X.fl j++(e64.fl t++(e8.fl l++[v64 o])))),Y y (e64.fl ae)]) ?_ (bM,bN,bO,bP,bQ,bS,bU,bV,0) ⟨Z,a⟩ h
 rintro cG ⟨d,u,z,E,p,x,f,A,cq⟩ L w cH hI b6 h bB
 try dsimp only at hI
 obtain⟨rfl,a⟩:=hI
 unfold F.KL at h
 refine R<|V 1 Z<|gl1 ?_
 apply gl9 Z h<;>intro h
 ·refine gl5<|az<|av<|R<|V 2 Z<|gl1<|aQ (fun w'=>St S T w' [Y c ([H n]++(X.fl j++(e64.fl t++(e8.fl l++[v64 o])))),Y y (e64.fl ae)]) (fun i=>!([2,4,7].contains i)) bL (fun _ _ _ D=>D.2) (fun _ _ D=>D) (by kernel_rfl)<|have a:=a.drew;show lxE _ _ _ _ _ _ _ [0,1,2,3,4,5,6,7,8,9,10,11,12,13,14,15,16,17,18,19,20,21,22,23,24,25,26] _ _ from an 2 Z a<|M h fun ap b7 h=>aY a Z Z (by kernel_rfl) Z (cf p (-14) b7 ) Z ?_
  rintro _ w ⟨rfl,B⟩
  have a:=a.e B
  refine an 1 Z a<|M h fun aq b8 h=>aY a Z Z (by kernel_rfl) Z (cf p (-18) b8 ) Z ?_
  rintro _ w ⟨rfl,B⟩
  have a:=a.e B
  refine J a Z Z (fun w b=>aj Z Z (fR _ ap aq)) Z<|an 1 Z a<|M h fun aI b9 h=>aY a Z Z (by kernel_rfl) Z (cf p (-41) b9 ) Z ?_
  rintro _ w ⟨rfl,B⟩
  have a:=a.e B
  refine J a Z Z (fun w b=>aj Z Z (fR _ (ap ^^^ aq) aI)) Z<|J a Z Z (fun w b=>aj Z Z (cD _ A ((ap ^^^ aq) ^^^ aI))) Z<|an 4 Z a<|J a Z Z (fun w b=>aj Z Z (fR _ x f)) Z<|J a Z Z (fun w b=>aj Z Z (f7 _ p (x ^^^ f))) Z<|J a Z Z (fun w b=>aj Z Z (fR _ f (p &&& (x ^^^ f)))) Z<|J a Z Z (fun w b=>aj Z Z (cD _ (A+((ap ^^^ aq) ^^^ aI)) (f ^^^ (p &&& (x ^^^ f))))) Z<|an 1 Z a<|M h fun bW bC h=>J a Z Z (fun w b=>cb u208 dR Z Z (bT bC (show F.HK.length=80 from Z))) Z<|J a Z Z (fun w b=>ao u103 Z Z (hT.sha_k512.cell b.fr bC Z)) Z<|J a Z Z (fun w b=>aj Z Z (cD _ ((A+((ap ^^^ aq) ^^^ aI))+(f ^^^ (p &&& (x ^^^ f)))) bW)) Z<|an 1 Z a<|M h fun ct bD h=>J a Z Z (fun w b=>cb u208 dR Z Z (bT bD C)) Z<|J a Z Z (fun w b=>ao u103 Z Z (b.r 1 Z (Up.elr Up.last bD Z))) Z<|J a Z Z (fun w b=>aj Z Z (cD _ (((A+((ap ^^^ aq) ^^^ aI))+(f ^^^ (p &&& (x ^^^ f))))+bW) ct)) Z<|bd h fun aJ ca h=>J a Z Z (fun w b=>bc (v:=v64 aJ) (by rw[<-ca]; rfl)) Z<|a9 a<|al<|R<|V 1 Z ?_
  exact M h fun aZ cd h=>aR a Z (cf d (-28) cd ) Z fun w a=>V 1 Z<|M h fun a0 ce h=>aR a Z (cf d (-34) ce ) Z fun w a=>O (aj Z Z (fR _ aZ a0)) Z<|V 1 Z<|M h fun bX cg h=>aR a Z (cf d (-39) cg ) Z fun w a=>O (aj Z Z (fR _ (aZ ^^^ a0) bX)) Z<|V 2 Z<|O (aj Z Z (f7 _ d u)) Z<|V 3 Z<|O (aj Z Z (dO _ d u)) Z<|O (aj Z Z (f7 _ z (d ||| u))) Z<|O (aj Z Z (dO _ (d &&& u) (z &&& (d ||| u)))) Z<|O (aj Z Z (cD _ ((aZ ^^^ a0) ^^^ bX) ((d &&& u) ||| (z &&& (d ||| u))))) Z<|bd h fun a1 ch h=>O (bc (v:=v64 a1) (by rw[<-ch]; rfl)) Z<|Q<|am<|V 5 Z<|O (aj Z Z (cD _ E aJ)) Z<|V 5 Z<|O (aj Z Z (cD _ aJ a1)) Z<|V 8 Z<|aE<|aF<|al<|am<|V 2 Z<|aE<|bn (br (b6 (aJ+a1,d,u,z,E+aJ,p,x,f,wI (cq+1)) _ _ ⟨Z,a⟩ (aX h bB)) Z)
 refine a7<|aB<|aB<|have h:=aS h bB;a8<|al<|R<|V 8 Z<|O (bR (vs:=[(0,v64 d,[v64 d]),(1,v64 u,[v64 u]),(2,v64 z,[v64 z]),(3,v64 E,[v64 E]),(4,v64 p,[v64 p]),(5,v64 x,[v64 x]),(6,v64 f,[v64 f]),(7,v64 A,[v64 A])]) (cells:=[v64 d,v64 u,v64 z,v64 E,v64 p,v64 x,v64 f,v64 A]) Z EE ⟨Z,Z,Z,Z,Z,Z,Z,Z,K⟩ (by kernel_rfl)) Z<|V 1 Z<|Q<|av<|ay [(0,P c 0),(199,.agg #[v64 d,v64 u,v64 z,v64 E,v64 p,v64 x,v64 f,v64 A]),(200,H 0)] Z ?_
 refine bg (F.Kp n j l o d u z E p x f A) (fun (s:Int×List UInt64) L w=>L=[(0,P c 0),(199,.agg #[v64 d,v64 u,v64 z,v64 E,v64 p,v64 x,v64 f,v64 A]),(200,H s.1)]/\s.2.length=8/\St S T w [Y c ([H n]++(X.fl j++(e64.fl s.2++(e8.fl l++[v64 o]))))]) ?_ (0,t) ⟨Z,q,(a.d [0] Z Z)⟩ h
 rintro cI ⟨cu,cv⟩ L w cJ hI ci h bE
 try dsimp only at hI
 obtain⟨rfl,aw,a⟩:=hI
 unfold F.Kp at h
 refine R<|V 1 Z<|gl1 ?_
 apply gl9 Z h<;>intro h
 ·refine gl5<|az<|av<|R<|V 1 Z<|M h fun bY bF h=>O (mN (cs:=(e64.fl ([d,u,z,E,p,x,f,A]:List UInt64)).toArray) u166 u103 Z dR Z Z (bT bF Z) (o7 bF Z)) Z<|V 2 Z<|Q<|dB (fun w'=>St S T w' [Y c ([H n]++(X.fl j++(e64.fl cv++(e8.fl l++[v64 o]))))]) (fun i=>!([11].contains i)) bL (fun _ _ _ D=>D.2) (fun _ _ D=>D) (by kernel_rfl)<|have a:=a.drew;show lxE _ _ _ _ _ _ _ [0,1,2,3,4,5,6,7,8,9,10,11] _ _ from an 2 Z a<|J a Z Z (fun w b=>aL Z) Z<|J a Z Z (fun w b=>ak (k:=9) u169 Z Z g8 Z) Z<|M h fun bZ bG h=>J a Z Z (fun w b=>cb u166 dR Z Z (bT bG aw)) Z<|J a Z Z (fun w b=>ao u103 Z Z (b.r 0 Z (Up.elr (Up.m (k:=1) Z (Up.m (k:=8) (bk g Z) Up.o Z) Z) bG Z))) Z<|an 1 Z a<|J a Z Z (fun w b=>aj Z Z (cD _ bZ bY)) Z<|J a Z Z (fun w b=>aL Z) Z<|J a Z Z (fun w b=>ak (k:=9) u169 Z Z g8 Z) Z<|M h fun cK bH h=>J a Z Z (fun w b=>cb u166 dR Z Z (bT bH aw)) Z<|gw a Z Z (fV (m:=1) Z dR Z Z Z (Up.elt (t':=(bZ+bY)) (Up.m (k:=1) Z (Up.m (k:=8) (bk g Z) Up.o Z) Z) bH Z Z) Z Z (gL Z) a (i:=0)) ?_
  intro w a
  obtain⟨cw,bI,h⟩:=fF h
  rw[bI]at a
  exact a9 K<|aF<|al<|am<|V 2 Z<|aE<|bn (br (ci (wI (cu+1),cw) _ _ ⟨Z,(by rw[<-bI,List.length_set]; exact aw),a⟩ (aX h bE)) Z)
 refine a7<|aB<|aB<|have h:=aS h bE;a8 ?_
 cases h
 exact gt Z ⟨Z,g,aw,ac,a.d [0] Z Z⟩
theorem pf {n:World} {f:Nat} {S:Q2} (d:Int) (a:Q0) (b:List UInt64) (c:Q1) (e:UInt64) {r:Int×Q0×List UInt64×Q1×UInt64}
  (h:F.Jr d a b c e=some r) (g:St S n n [Y f ([H d]++(X.fl a++(e64.fl b++(e8.fl c++[v64 e]))))]) (A:TB S n) (j:a.length=8) (l:b.length=8) (m:c.length=128):Calls Tryz.prog 115 #[P f 0] n (Ret fun v w=>v=.tuple #[]/\r.2.1.length=8/\r.2.2.1.length=8/\r.2.2.2.1.length=128/\St S n w [Y f ([H r.1]++(X.fl r.2.1++(e64.fl r.2.2.1++(e8.fl r.2.2.2.1++[v64 r.2.2.2.2]))))]):=by
 refine ax 11 Tryz.func115 Z Z Z<|ay [(0,P f 0)] Z ?_
 unfold F.Jr at h
 refine R<|V 1 Z<|O (aL Z) Z<|O (ak (k:=0) u169 Z Z sh Z) Z<|O (ao u31 Z Z (g.r 0 Z (Up.get0 Up.o))) Z<|V 1 Z<|Q ?_
 apply gl9 Z h<;>intro h
 ·refine am<|V 1 Z<|have i:=g.pick (os':=[Y f ([H d]++(X.fl a++(e64.fl b++(e8.fl c++[v64 e]))))]++[]) [0] (by decide) Z;M h fun B p h=>aK Z (nu d a b c e p i.f (A.f i) j l m) Z ?_
  rintro _ w ⟨rfl,q,s,t,o⟩
  have g:=i.g o
  refine aE ?_
  cases h
  exact gt Z ⟨Z,q,s,t,g.d [0] Z Z⟩
 refine am<|V 1 Z<|have i:=g.pick (os':=[Y f ([H d]++(X.fl a++(e64.fl b++(e8.fl c++[v64 e]))))]++[]) [0] (by decide) Z;M h fun C u h=>aK Z (nq d a b c e u i.f (A.f i) j l m) Z ?_
 rintro _ w ⟨rfl,x,y,z,o⟩
 have g:=i.g o
 refine aE ?_
 cases h
 exact gt Z ⟨Z,x,y,z,g.d [0] Z Z⟩
theorem ka {B:World} {a1:Q1} {C:Value} {n:Nat} {S:Q2} (t:Int) (u:Q0) (x:List UInt64) (y:Q1) (E:UInt64) {r:Int×Q0×List UInt64×Q1×UInt64}
  (h:F.H8 t u x y E a1=some r) (c:St S B B [Y n ([H t]++(X.fl u++(e64.fl x++(e8.fl y++[v64 E]))))]) (hT:TB S B) (ah:u.length=8) (J:x.length=8) (al:y.length=128) (aM:RP S B e8 C a1):Calls Tryz.prog 74 #[P n 0,C] B (Ret fun v w=>v=.tuple #[]/\r.2.1.length=8/\r.2.2.1.length=8/\r.2.2.2.1.length=128/\St S B w [Y n ([H r.1]++(X.fl r.2.1++(e64.fl r.2.2.1++(e8.fl r.2.2.2.1++[v64 r.2.2.2.2]))))]):=by
 refine ax 50 Tryz.func74 Z Z Z<|ay [(0,P n 0),(1,C)] Z ?_
 unfold F.H8 at h
 refine R<|V 1 Z<|O (aL Z) Z<|O (ak (k:=0) u169 Z Z sh Z) Z<|O (ao u31 Z Z (c.r 0 Z (Up.get0 Up.o))) Z<|M h fun q aH h=>aR c Z (fJ t aH ) Z fun w c=>V 1 Z<|Q<|av<|ay [(0,P n 0),(1,C),(4,H q)] Z ?_
 refine bg (F.Ih q) (fun (s:Q1×Int×Q0×List UInt64×Q1×UInt64) L w=>∃(D:Value),L=[(0,P n 0),(1,D),(4,H q)]/\RP S B e8 D s.1/\s.2.2.1.length=8/\s.2.2.2.1.length=8/\s.2.2.2.2.1.length=128/\St S B w [Y n ([H s.2.1]++(X.fl s.2.2.1++(e64.fl s.2.2.2.1++(e8.fl s.2.2.2.2.1++[v64 s.2.2.2.2.2]))))]) ?_ (a1,t,u,x,y,E) ⟨C,Z,aM,ah,J,al,c⟩ h
 rintro aQ ⟨aC,ab,ac,ad,aT,g⟩ L w aU hI T h z
 try dsimp only at hI
 obtain⟨D,rfl,o,j,d,b,c⟩:=hI
 unfold F.Ih at h
 refine az<|R<|V 1 Z<|O (aD u25 Z (o.b c.fr)) Z<|V 1 Z<|Q ?_
 apply gl9 Z h<;>intro h
 ·refine gl5<|av<|R<|V 1 Z<|O (aL Z) Z<|O (ak (k:=145) u169 Z Z tQ Z) Z<|O (ao u103 Z Z (c.r 0 Z (Up.get0 (Up.m (k:=1) Z (Up.m (k:=8) (bk j Z) (Up.m (k:=8) (bk d Z) (Up.m (k:=128) (bk b Z) Up.last Z) Z) Z) Z)))) Z<|V 1 Z<|O (aG Z (fx u3 u103 q)) Z<|dh h fun an h=>O (aj Z Z (ft _ g (UInt64.ofInt q) an)) Z<|O (aG Z (oI u103 u3 (g%(UInt64.ofInt q)))) Z<|bd h fun aI ap h=>O (bc (v:=H aI) (by rw[<-ap]; rfl)) Z<|gl2<|V 1 Z<|O (aL Z) Z<|O (ak (k:=17) u169 Z Z yh Z) Z<|V 2 Z<|M h fun aV a h=>O (Fs (e:=e8) u167 sz5 Z Z Z Z b a) Z<|V 1 Z<|bm (AK (e:=e8) u25 ti5 Z Z Z c (i:=0) Z b (Up.m (k:=1) Z (Up.m (k:=8) (bk j Z) (Up.m (k:=8) (bk d Z) Up.o Z) Z) Z) (o.b c.fr) (by have:=(cI a).1; omega) (cI a).1.2.2) Z ?_
  rintro v_q w ⟨hv_q,c⟩
  subst v_q
  obtain⟨G,l,h⟩:=fF h
  rw[l]at c
  refine bd h fun f aq h=>O (bc (v:=H f) (by rw[<-aq]; rfl)) Z<|gl2<|V 1 Z<|O (aL Z) Z<|O (ak (k:=145) u169 Z Z tQ Z) Z<|O (ao u103 Z Z (c.r 0 Z (Up.get0 (Up.m (k:=1) Z (Up.m (k:=8) (bk j Z) (Up.m (k:=8) (bk d Z) (Up.m (k:=128) (bk (by rw[<-l,eo _ _ _ _ (by have:=(cI a).1; omega) (cI a).1.2.2]; exact b) Z) Up.last Z) Z) Z) Z)))) Z<|V 1 Z<|O (aG Z (fx u3 u103 f)) Z<|O (aj Z Z (cD _ g (UInt64.ofInt f))) Z<|O (aL Z) Z<|O (ak (k:=145) u169 Z Z tQ Z) Z<|bo (fV (m:=1) (xs:=[v64 g]) (xs':=[v64 (g+(UInt64.ofInt f))]) (i:=0) Z dR Z Z Z (Up.m (k:=1) Z (Up.m (k:=8) (bk j Z) (Up.m (k:=8) (bk d Z) (Up.m (k:=128) (bk (by rw[<-l,eo _ _ _ _ (by have:=(cI a).1; omega) (cI a).1.2.2]; exact b) Z) Up.last Z) Z) Z) Z) Z Z (gL Z) c) fun w c=>gl2<|V 2 Z<|M h fun ae A h=>O (oL u25 ti5 Z Z (o.b c.fr) A) Z<|V 1 Z<|gl2<|V 5 Z<|Q ?_
  apply gl9 Z h<;>intro h
  ·refine am<|V 1 Z<|have hG:=c.pick (os':=[Y n ([H ab]++(X.fl ac++(e64.fl ad++(e8.fl G++[v64 (g+(UInt64.ofInt f))]))))]++[]) [0] (by decide) Z;M h fun p ar h=>aK Z (pf ab ac ad G (g+(UInt64.ofInt f)) ar hG.f (hT.f hG) j d (by rw[<-l,eo _ _ _ _ (by have:=(cI a).1; omega) (cI a).1.2.2]; exact b)) Z ?_
   rintro _ w ⟨rfl,au,aw,aA,aO⟩
   have c:=hG.g aO
   exact aE<|aF<|bn (br (T (ae,p.1,p.2.1,p.2.2.1,p.2.2.2.1,p.2.2.2.2) _ _ ⟨slV D e8.sz ((f:Int).toNat) aC.length,Z,(o.g_sll A),au,aw,aA,c⟩ (aX h z)) Z)
  exact cg<|aF<|bn (br (T (ae,ab,ac,ad,G,g+(UInt64.ofInt f)) _ _ ⟨slV D e8.sz ((f:Int).toNat) aC.length,Z,(o.g_sll A),j,d,(by rw[<-l,eo _ _ _ _ (by have:=(cI a).1; omega) (cI a).1.2.2]; exact b),c⟩ (aX h z)) Z)
 refine a7<|aB<|aB<|have h:=aS h z;a8 ?_
 cases h
 exact gt Z ⟨Z,j,d,b,c.d [0] Z Z⟩
end Go.Proofs
