import Derived.Test.YtmegjloifgfldaaGreatDoorRW0
import Derived.Test.YtmegjloifgfldaaGreatDoorGkFman
import Derived.Test.YtmegjloifgfldaaGreatDoorRWlib
set_option linter.unusedVariables false
set_option linter.unusedSimpArgs false
set_option linter.unusedSectionVars false
set_option maxRecDepth 4000
namespace Go.Proofs
open Go Go.RowKit Go.Gk
open Go.Gk renaming aa -> V, af -> M, ag -> O, ai -> J, e32 -> X, gl3 -> Q, gl4 -> R, pB -> P, vB -> N, vI -> H
open Go.Gk.OE renaming bx -> Y
theorem eH {b:World} (a0:Int) {r:Int}
  (h:F.GH a0=some r) :Calls Tryz.prog 20 #[H a0] b (Ret fun v w=>v=H r/\St [] b w []):=by
 refine ay 10 Tryz.func20 Z Z Z<|have a:=St.k b;ax [(0,H a0)] Z ?_
 unfold F.GH at h
 refine R<|V 1 Z<|gl1<|R<|V 1 Z<|Q<|av<|R<|V 2 Z<|Q ?_
 apply gl9 Z h<;>intro h
 ·refine R<|V 1 Z<|Q<|aq<|bb<|aN ?_
  cases h
  exact au Z Z ⟨Z,a⟩
 refine R<|V 2 Z<|Q ?_
 apply gl9 Z h<;>intro h
 ·refine R<|V 1 Z<|Q<|aq<|bb<|aN ?_
  cases h
  exact au Z Z ⟨Z,a⟩
 refine R<|V 2 Z<|Q ?_
 apply gl9 Z h<;>intro h
 ·refine R<|V 1 Z<|Q<|aq<|bb<|aN ?_
  cases h
  exact au Z Z ⟨Z,a⟩
 refine cf<|aH<|am<|R<|V 1 Z<|Q<|aq ?_
 cases h
 exact au Z Z ⟨Z,a⟩
theorem fG {c:World} (a0:Int) {r:Int}
  (h:F.Hd a0=some r) :Calls Tryz.prog 113 #[H a0] c (Ret fun v w=>v=H r/\St [] c w []):=by
 refine ay 9 Tryz.func113 Z Z Z<|have a:=St.k c;ax [(0,H a0)] Z ?_
 unfold F.Hd at h
 refine R<|V 1 Z<|gl1<|R<|V 1 Z<|Q<|av<|R<|V 2 Z<|Q ?_
 apply gl9 Z h<;>intro h
 ·refine R<|V 1 Z<|Q<|aq<|bb<|aN ?_
  cases h
  exact au Z Z ⟨Z,a⟩
 refine aU (r:=r) (fun (g:Bool) L w=>L=[(6,N g)]/\St [] c w []) (F.LS) ?_ ?_
 rotate_left
 ·intro b
  refine R<|V 2 Z<|Q ?_
  apply gl9 Z h<;>intro h
  ·exact gl5<|aB (b (a0 == 2) _ _ ⟨Z,a⟩ h) Z
  exact al<|V 2 Z<|Q<|aB (b (a0 == 3) _ _ ⟨Z,a⟩ h) Z
 rintro e L w d h
 try dsimp only at d
 obtain⟨rfl,a⟩:=d
 unfold F.LS at h
 apply gl9 Z h<;>intro h
 ·refine R<|V 1 Z<|Q<|aq<|bb<|aN ?_
  cases h
  exact au Z Z ⟨Z,a⟩
 refine cf<|aH<|am<|R<|V 1 Z<|Q<|aq ?_
 cases h
 exact au Z Z ⟨Z,a⟩
theorem AQ {d:World} (a0:Int) {r:Option (Int×Q0×List UInt64×Q1×UInt64)}
  (h:F.L5 a0=some r) (f:TB [] d):Calls Tryz.prog 73 #[H a0] d (Ret fun v w=>∃u0:Value,v=u0/\Cm u0 (r.map (fun c=>[H c.1]++(X.fl c.2.1++(e64.fl c.2.2.1++(e8.fl c.2.2.2.1++[v64 c.2.2.2.2])))))/\(∀c,r=some c->c.2.1.length=8/\c.2.2.1.length=8/\c.2.2.2.1.length=128)/\St [] d w (Ck u0 (r.map (fun c=>[H c.1]++(X.fl c.2.1++(e64.fl c.2.2.1++(e8.fl c.2.2.2.1++[v64 c.2.2.2.2])))))++[])):=by
 refine ay 27 Tryz.func73 Z Z Z<|have a:=St.k d;ax [(0,H a0)] Z ?_
 unfold F.L5 at h
 refine R<|V 1 Z<|gl2<|V 1 Z<|O (bR (vs:=[(0,H a0,[H a0])]) (cells:=[H a0]++(X.fl (List.replicate 8 0)++(e64.fl (List.replicate 8 0)++(e8.fl (List.replicate 128 0)++[v64 0])))) Z Fx ⟨Z,K⟩ (by kernel_rfl)) Z<|bl (cy (cs:=[H a0]++(X.fl (List.replicate 8 0)++(e64.fl (List.replicate 8 0)++(e8.fl (List.replicate 128 0)++[v64 0])))) Z Z a) Z fun e w a=>V 1 Z<|Q ?_
 refine aU (r:=r) (fun (g:Q0×List UInt64) L w=>L=[(3,P e 0)]/\g.1.length=8/\g.2.length=8/\St [] d w [Y e ([H a0]++(X.fl g.1++(e64.fl g.2++(e8.fl (List.replicate 128 0)++[v64 0]))))]) (F.LN a0) ?_ ?_
 rotate_left
 ·intro b
  refine R<|V 1 Z<|Q<|av<|R<|V 2 Z<|Q ?_
  apply gl9 Z h<;>intro h
  ·exact al<|V 1 Z<|O (ft (us:=X.fl F.GZ) u150 Z iP (bk (show F.GZ.length=8 from Z) Z) Z (f.sha_start256.cells a.fr)) Z<|O (aK Z) Z<|O (ak (k:=1) u169 Z Z im Z) Z<|bm (fS (m:=8) (xs:=X.fl (List.replicate 8 0)) (xs':=X.fl F.GZ) (i:=0) Z iP Z Z Z (Up.m (k:=1) Z Up.o Z) (bk List.length_replicate Z) (bk (show F.GZ.length=8 from Z) Z) lT a) fun w a=>aG<|aH<|am<|aB (b (F.GZ,(List.replicate 8 0)) _ _ ⟨Z,(show F.GZ.length=8 from Z),List.length_replicate,a⟩ h) Z
  refine R<|V 2 Z<|Q ?_
  apply gl9 Z h<;>intro h
  ·exact al<|V 1 Z<|O (ft (us:=e64.fl F.GY) u166 Z qf (bk (show F.GY.length=8 from Z) Z) Z (f.sha_start384.cells a.fr)) Z<|O (aK Z) Z<|O (ak (k:=9) u169 Z Z gW Z) Z<|bm (fS (m:=8) (xs:=e64.fl (List.replicate 8 0)) (xs':=e64.fl F.GY) (i:=0) Z qf Z Z Z (Up.m (k:=1) Z (Up.m (k:=8) (bk List.length_replicate Z) Up.o Z) Z) (bk List.length_replicate Z) (bk (show F.GY.length=8 from Z) Z) lT a) fun w a=>aG<|aH<|am<|aB (b ((List.replicate 8 0),F.GY) _ _ ⟨Z,List.length_replicate,(show F.GY.length=8 from Z),a⟩ h) Z
  refine R<|V 2 Z<|Q ?_
  apply gl9 Z h<;>intro h
  ·exact al<|V 1 Z<|O (ft (us:=e64.fl F.G0) u166 Z qf (bk (show F.G0.length=8 from Z) Z) Z (f.sha_start512.cells a.fr)) Z<|O (aK Z) Z<|O (ak (k:=9) u169 Z Z gW Z) Z<|bm (fS (m:=8) (xs:=e64.fl (List.replicate 8 0)) (xs':=e64.fl F.G0) (i:=0) Z qf Z Z Z (Up.m (k:=1) Z (Up.m (k:=8) (bk List.length_replicate Z) Up.o Z) Z) (bk List.length_replicate Z) (bk (show F.G0.length=8 from Z) Z) lT a) fun w a=>aG<|aH<|am<|aB (b ((List.replicate 8 0),F.G0) _ _ ⟨Z,List.length_replicate,(show F.G0.length=8 from Z),a⟩ h) Z
  refine R<|V 1 Z<|Q<|aq<|bb<|aN ?_
  cases h
  exact au Z Z ⟨.pointer none,Z,Z,(fun c hc=>by cases hc),a.d [] Z Z⟩
 rintro⟨o,p⟩ L w n h
 try dsimp only at n
 obtain⟨rfl,j,l,a⟩:=n
 unfold F.LN at h
 refine R<|V 2 Z<|Q<|aq ?_
 cases h
 exact au Z Z ⟨P e 0,Z,⟨_,Z⟩,(fun c hc=>by cases hc; exact⟨j,l,List.length_replicate⟩),a.d [0] Z Z⟩
theorem nk {w0:World} {l:Nat} {S:Q2} (n:Int) (q:Q0) (g:List UInt64) (j:Q1) (o:UInt64) {r:Int×Q0×List UInt64×Q1×UInt64}
  (h:F.KG n q g j o=some r) (a:St S w0 w0 [Y l ([H n]++(X.fl q++(e64.fl g++(e8.fl j++[v64 o]))))]) (hT:TB S w0) (c:q.length=8) (y:g.length=8) (x:j.length=128):Calls Tryz.prog 156 #[P l 0] w0 (Ret fun v w=>v=.tuple #[]/\r.2.1.length=8/\r.2.2.1.length=8/\r.2.2.2.1.length=128/\St S w0 w [Y l ([H r.1]++(X.fl r.2.1++(e64.fl r.2.2.1++(e8.fl r.2.2.2.1++[v64 r.2.2.2.2]))))]):=by
 refine ay 221 Tryz.func156 Z Z Z<|ax [(0,P l 0)] Z ?_
 unfold F.KG at h
 refine R<|bl (bc (cs:=X.fl (List.replicate 64 0)) FX (by kernel_rfl) a) Z fun D w a=>gl1<|R<|V 1 Z<|Q<|av<|ax [(0,P l 0),(2,P D 0),(21,H 0)] Z ?_
 refine bf (F.Lu j q n g o) (fun (s:Int×Q0) L w=>L=[(0,P l 0),(2,P D 0),(21,H s.1)]/\s.2.length=64/\St S w0 w [Y l ([H n]++(X.fl q++(e64.fl g++(e8.fl j++[v64 o])))),Y D (X.fl s.2)]) ?_ (0,(List.replicate 64 0)) ⟨Z,List.length_replicate,(a.d [1,0] Z Z)⟩ h
 rintro cq ⟨ce,cf⟩ L w cD hI cg h bH
 try dsimp only at hI
 obtain⟨rfl,aO,a⟩:=hI
 unfold F.Lu at h
 refine R<|V 1 Z<|gl1 ?_
 apply gl9 Z h<;>intro h
 ·refine gl5<|az<|av<|R<|V 2 Z<|gl2<|V 1 Z<|O (aK Z) Z<|O (ak (k:=17) u169 Z Z ya Z) Z<|V 1 Z<|O (aj Z Z (ee _ 4 ce)) Z<|M h fun cr z h=>O (FI (e:=e8) u167 sz5 Z Z Z x z) Z<|V 1 Z<|Q<|dy (fun w'=>St S w0 w' [Y l ([H n]++(X.fl q++(e64.fl g++(e8.fl j++[v64 o])))),Y D (X.fl cf)]) (fun i=>!([24].contains i)) bK (fun _ _ _ A=>A.2) (fun _ _ A=>A) (by kernel_rfl)<|have a:=a.drew;show lxE _ _ _ _ _ _ _ [0,1,2,3,4,5,6,7,8,9,10,11,12,13,14,15,16,17,18,19,20,21,22,23,24] _ _ from an 2 Z a<|M h fun ad a0 h=>J a Z Z (fun w b=>bh u25 ti5 Z Z ((b.bxroA 0 Z x (Up.m (k:=1) Z (Up.m (k:=8) (bk c Z) (Up.m (k:=8) (bk y Z) Up.o Z) Z) Z)).g_sll z) a0) Z<|J a Z Z (fun w b=>aX Tryz.underlying5 Z Z ((b.bxroA 0 Z x (Up.m (k:=1) Z (Up.m (k:=8) (bk c Z) (Up.m (k:=8) (bk y Z) Up.o Z) Z) Z)).g_sll z) a0 Z) Z<|J a Z Z (fun w b=>aE Z (lY Tryz.underlying5 u106 ad)) Z<|J a Z Z (fun w b=>aj Z Z (kb _ ad.toUInt32 24)) Z<|an 1 Z a<|M h fun ae a1 h=>J a Z Z (fun w b=>bh u25 ti5 Z Z ((b.bxroA 0 Z x (Up.m (k:=1) Z (Up.m (k:=8) (bk c Z) (Up.m (k:=8) (bk y Z) Up.o Z) Z) Z)).g_sll z) a1) Z ?_
  refine J a Z Z (fun w b=>aX Tryz.underlying5 Z Z ((b.bxroA 0 Z x (Up.m (k:=1) Z (Up.m (k:=8) (bk c Z) (Up.m (k:=8) (bk y Z) Up.o Z) Z) Z)).g_sll z) a1 Z) Z<|J a Z Z (fun w b=>aE Z (lY Tryz.underlying5 u106 ae)) Z<|J a Z Z (fun w b=>aj Z Z (kb _ ae.toUInt32 16)) Z<|J a Z Z (fun w b=>aj Z Z (gw _ (cu ad.toUInt32 24) (cu ae.toUInt32 16))) Z<|an 1 Z a<|M h fun aB a2 h=>J a Z Z (fun w b=>bh u25 ti5 Z Z ((b.bxroA 0 Z x (Up.m (k:=1) Z (Up.m (k:=8) (bk c Z) (Up.m (k:=8) (bk y Z) Up.o Z) Z) Z)).g_sll z) a2) Z<|J a Z Z (fun w b=>aX Tryz.underlying5 Z Z ((b.bxroA 0 Z x (Up.m (k:=1) Z (Up.m (k:=8) (bk c Z) (Up.m (k:=8) (bk y Z) Up.o Z) Z) Z)).g_sll z) a2 Z) Z<|J a Z Z (fun w b=>aE Z (lY Tryz.underlying5 u106 aB)) Z<|J a Z Z (fun w b=>aj Z Z (kb _ aB.toUInt32 8)) Z<|J a Z Z (fun w b=>aj Z Z (gw _ ((cu ad.toUInt32 24) ||| (cu ae.toUInt32 16)) (cu aB.toUInt32 8))) Z<|an 1 Z a<|M h fun aP a3 h=>J a Z Z (fun w b=>bh u25 ti5 Z Z ((b.bxroA 0 Z x (Up.m (k:=1) Z (Up.m (k:=8) (bk c Z) (Up.m (k:=8) (bk y Z) Up.o Z) Z) Z)).g_sll z) a3) Z ?_
  refine J a Z Z (fun w b=>aX Tryz.underlying5 Z Z ((b.bxroA 0 Z x (Up.m (k:=1) Z (Up.m (k:=8) (bk c Z) (Up.m (k:=8) (bk y Z) Up.o Z) Z) Z)).g_sll z) a3 Z) Z<|J a Z Z (fun w b=>aE Z (lY Tryz.underlying5 u106 aP)) Z<|J a Z Z (fun w b=>aj Z Z (gw _ (((cu ad.toUInt32 24) ||| (cu ae.toUInt32 16)) ||| (cu aB.toUInt32 8)) aP.toUInt32)) Z<|M h fun ct a4 h=>J a Z Z (fun w b=>bZ u206 dS Z Z (bT a4 aO)) Z<|gu a Z Z (fS (m:=1) Z dS Z Z Z (Up.elt (t':=((((cu ad.toUInt32 24) ||| (cu ae.toUInt32 16)) ||| (cu aB.toUInt32 8)) ||| aP.toUInt32)) Up.last a4 Z Z) Z Z (gI Z) a (i:=1)) fun w a=>bg h fun ch a5 h=>?_
  rw[a5]at a
  exact a8 K<|aH<|am<|al<|V 2 Z<|aG<|bo (br (cg (wI (ce+1),ch) _ _ ⟨Z,(by rw[<-a5,List.length_set]; exact aO),a⟩ (aW h bH)) Z)
 refine aZ<|aA<|aA<|have h:=aR h bH;a7<|am<|az<|R<|V 1 Z<|Q<|av<|ax [(0,P l 0),(2,P D 0),(5,H 16)] Z ?_
 refine bf (F.Iw q n g j o) (fun (s:Int×Q0) L w=>L=[(0,P l 0),(2,P D 0),(5,H s.1)]/\s.2.length=64/\St S w0 w [Y l ([H n]++(X.fl q++(e64.fl g++(e8.fl j++[v64 o])))),Y D (X.fl s.2)]) ?_ (16,cf) ⟨Z,aO,a⟩ h
 rintro cv ⟨ci,ah⟩ L w cw hI bX h a6
 try dsimp only at hI
 obtain⟨rfl,G,a⟩:=hI
 unfold F.Iw at h
 refine az<|R<|V 2 Z<|Q ?_
 apply gl9 Z h<;>intro h
 ·refine gl5<|az<|av<|az<|aQ (fun w'=>St S w0 w' [Y l ([H n]++(X.fl q++(e64.fl g++(e8.fl j++[v64 o])))),Y D (X.fl ah)]) (fun _=>true) bK (fun _ _ _ A=>A.2) (fun _ _ A=>A) (by kernel_rfl)<|have a:=a.drew;show lxE _ _ _ _ _ _ _ [0,1,2,3,4,5,6,7,8,9] _ _ from an 2 Z a<|M h fun ac a9 h=>J a Z Z (fun w b=>bZ u206 dS Z Z (bT a9 G)) Z<|J a Z Z (fun w b=>ar u106 Z Z (b.r 1 Z (Up.elr Up.last a9 Z))) Z<|an 2 Z a<|M h fun ao ba h=>J a Z Z (fun w b=>bZ u206 dS Z Z (bT ba G)) Z<|J a Z Z (fun w b=>ar u106 Z Z (b.r 1 Z (Up.elr Up.last ba Z))) Z<|an 2 Z a<|a8 a<|am<|dy (fun w'=>St S w0 w' [Y l ([H n]++(X.fl q++(e64.fl g++(e8.fl j++[v64 o])))),Y D (X.fl ah)]) (fun i=>!([11,13,20,22,29].contains i)) bK (fun _ _ _ A=>A.2) (fun _ _ A=>A) (by kernel_rfl)<|have a:=a.drew;show lxE _ _ _ _ _ _ _ [0,1,2,3,4,5,6,7,8,9,10,11,12,13,14,15,16,17,18,19,20,21,22,23,24,25,26,27,28,29] _ _ from an 3 Z a<|M h fun aJ bb h=>J a Z Z (fun w b=>bZ u206 dS Z Z (bT bb G)) Z<|J a Z Z (fun w b=>ar u106 Z Z (b.r 1 Z (Up.elr Up.last bb Z))) Z<|an 2 Z a ?_
  refine M h fun aL be h=>J a Z Z (fun w b=>bZ u206 dS Z Z (bT be G)) Z<|J a Z Z (fun w b=>ar u106 Z Z (b.r 1 Z (Up.elr Up.last be Z))) Z<|J a Z Z (fun w b=>aj Z Z (eP _ aJ aL)) Z<|an 1 Z a<|M h fun aC bY h=>aY a Z Z (by kernel_rfl) Z (cc ac (-7) bY ) Z ?_
  rintro _ w ⟨rfl,E⟩
  have a:=a.e E
  refine an 1 Z a<|M h fun aD b0 h=>aY a Z Z (by kernel_rfl) Z (cc ac (-18) b0 ) Z ?_
  rintro _ w ⟨rfl,E⟩
  have a:=a.e E
  refine J a Z Z (fun w b=>aj Z Z (fW _ aC aD)) Z<|an 1 Z a<|J a Z Z (fun w b=>aj Z Z (de _ ac 3)) Z<|J a Z Z (fun w b=>aj Z Z (fW _ (aC ^^^ aD) (bv ac 3))) Z<|J a Z Z (fun w b=>aj Z Z (eP _ (aJ+aL) ((aC ^^^ aD) ^^^ (bv ac 3)))) Z<|an 1 Z a<|M h fun aM b1 h=>aY a Z Z (by kernel_rfl) Z (cc ao (-17) b1 ) Z ?_
  rintro _ w ⟨rfl,E⟩
  have a:=a.e E
  refine an 1 Z a<|M h fun aN b2 h=>aY a Z Z (by kernel_rfl) Z (cc ao (-19) b2 ) Z ?_
  rintro _ w ⟨rfl,E⟩
  have a:=a.e E
  refine J a Z Z (fun w b=>aj Z Z (fW _ aM aN)) Z<|an 1 Z a<|J a Z Z (fun w b=>aj Z Z (de _ ao 10)) Z<|J a Z Z (fun w b=>aj Z Z (fW _ (aM ^^^ aN) (bv ao 10))) Z<|J a Z Z (fun w b=>aj Z Z (eP _ ((aJ+aL)+((aC ^^^ aD) ^^^ (bv ac 3))) ((aM ^^^ aN) ^^^ (bv ao 10)))) Z<|M h fun cx bi h=>J a Z Z (fun w b=>bZ u206 dS Z Z (bT bi G)) Z<|gu a Z Z (fS (m:=1) Z dS Z Z Z (Up.elt (t':=(((aJ+aL)+((aC ^^^ aD) ^^^ (bv ac 3)))+((aM ^^^ aN) ^^^ (bv ao 10)))) Up.last bi Z Z) Z Z (gI Z) a (i:=1)) fun w a=>bg h fun cj bj h=>?_
  rw[bj]at a
  exact a8 K<|aH<|am<|al<|V 3 Z<|aG<|bo (br (bX (wI (ci+1),cj) _ _ ⟨Z,(by rw[<-bj,List.length_set]; exact G),a⟩ (aW h a6)) Z)
 refine aZ<|aA<|aA<|have h:=aR h a6;a7<|am<|az<|aQ (fun w'=>St S w0 w' [Y l ([H n]++(X.fl q++(e64.fl g++(e8.fl j++[v64 o])))),Y D (X.fl ah)]) (fun _=>true) bK (fun _ _ _ A=>A.2) (fun _ _ A=>A) (by kernel_rfl)<|have a:=a.drew;show lxE _ _ _ _ _ _ _ [0,1,2,3,4,5,6,7,8,9,10,11,12,13,14,15,16,17,18,19,20,21,22,23,24,25,26,27,28,29,30,31,32,33,34,35,36,37,38,39,40,41,42,43,44,45,46,47] _ _ from an 1 Z a<|J a Z Z (fun w b=>aK Z) Z<|J a Z Z (fun w b=>ak (k:=1) u169 Z Z im Z) Z<|M h fun bI bm h=>J a Z Z (fun w b=>bZ u150 dS Z Z (bT bm c)) Z<|J a Z Z (fun w b=>ar u106 Z Z (b.r 0 Z (Up.elr (Up.m (k:=1) Z Up.o Z) bm Z))) Z<|an 1 Z a<|J a Z Z (fun w b=>aK Z) Z<|J a Z Z (fun w b=>ak (k:=1) u169 Z Z im Z) Z<|M h fun bJ bn h=>J a Z Z (fun w b=>bZ u150 dS Z Z (bT bn c)) Z<|J a Z Z (fun w b=>ar u106 Z Z (b.r 0 Z (Up.elr (Up.m (k:=1) Z Up.o Z) bn Z))) Z<|an 1 Z a<|J a Z Z (fun w b=>aK Z) Z<|J a Z Z (fun w b=>ak (k:=1) u169 Z Z im Z) Z<|M h fun bL bp h=>J a Z Z (fun w b=>bZ u150 dS Z Z (bT bp c)) Z ?_
 refine J a Z Z (fun w b=>ar u106 Z Z (b.r 0 Z (Up.elr (Up.m (k:=1) Z Up.o Z) bp Z))) Z<|an 1 Z a<|J a Z Z (fun w b=>aK Z) Z<|J a Z Z (fun w b=>ak (k:=1) u169 Z Z im Z) Z<|M h fun bM bq h=>J a Z Z (fun w b=>bZ u150 dS Z Z (bT bq c)) Z<|J a Z Z (fun w b=>ar u106 Z Z (b.r 0 Z (Up.elr (Up.m (k:=1) Z Up.o Z) bq Z))) Z<|an 1 Z a<|J a Z Z (fun w b=>aK Z) Z<|J a Z Z (fun w b=>ak (k:=1) u169 Z Z im Z) Z<|M h fun bN bs h=>J a Z Z (fun w b=>bZ u150 dS Z Z (bT bs c)) Z<|J a Z Z (fun w b=>ar u106 Z Z (b.r 0 Z (Up.elr (Up.m (k:=1) Z Up.o Z) bs Z))) Z<|an 1 Z a<|J a Z Z (fun w b=>aK Z) Z<|J a Z Z (fun w b=>ak (k:=1) u169 Z Z im Z) Z<|M h fun bO bt h=>J a Z Z (fun w b=>bZ u150 dS Z Z (bT bt c)) Z<|J a Z Z (fun w b=>ar u106 Z Z (b.r 0 Z (Up.elr (Up.m (k:=1) Z Up.o Z) bt Z))) Z<|an 1 Z a<|J a Z Z (fun w b=>aK Z) Z<|J a Z Z (fun w b=>ak (k:=1) u169 Z Z im Z) Z<|M h fun bP bu h=>?_
 refine J a Z Z (fun w b=>bZ u150 dS Z Z (bT bu c)) Z<|J a Z Z (fun w b=>ar u106 Z Z (b.r 0 Z (Up.elr (Up.m (k:=1) Z Up.o Z) bu Z))) Z<|an 1 Z a<|J a Z Z (fun w b=>aK Z) Z<|J a Z Z (fun w b=>ak (k:=1) u169 Z Z im Z) Z<|M h fun bQ bw h=>J a Z Z (fun w b=>bZ u150 dS Z Z (bT bw c)) Z<|J a Z Z (fun w b=>ar u106 Z Z (b.r 0 Z (Up.elr (Up.m (k:=1) Z Up.o Z) bw Z))) Z<|an 8 Z a<|a8 a<|am<|az<|R<|V 1 Z<|Q<|av<|ax [(0,P l 0),(2,P D 0),(8,v32 bI),(9,v32 bJ),(10,v32 bL),(11,v32 bM),(12,v32 bN),(13,v32 bO),(14,v32 bP),(15,v32 bQ),(136,H 0)] Z ?_
 refine bf (F.Kf q ah n g j o) (fun (s:UInt32×UInt32×UInt32×UInt32×UInt32×UInt32×UInt32×UInt32×Int) L w=>L=[(0,P l 0),(2,P D 0),(8,v32 s.1),(9,v32 s.2.1),(10,v32 s.2.2.1),(11,v32 s.2.2.2.1),(12,v32 s.2.2.2.2.1),(13,v32 s.2.2.2.2.2.1),(14,v32 s.2.2.2.2.2.2.1),(15,v32 s.2.2.2.2.2.2.2.1),(136,H s.2.2.2.2.2.2.2.2)]/\St S w0 w [Y l ([H n]++(X.fl q++(e64.fl g++(e8.fl j++[v64 o])))),Y D (X.fl ah)]) ?_ (bI,bJ,bL,bM,bN,bO,bP,bQ,0) ⟨Z,a⟩ h
 rintro cy ⟨d,t,B,T,p,u,f,C,ck⟩ L w cz hI b3 h bz
 try dsimp only at hI
 obtain⟨rfl,a⟩:=hI
 unfold F.Kf at h
 refine R<|V 1 Z<|gl1 ?_
 apply gl9 Z h<;>intro h
 ·refine gl5<|az<|av<|R<|V 2 Z<|gl1<|aQ (fun w'=>St S w0 w' [Y l ([H n]++(X.fl q++(e64.fl g++(e8.fl j++[v64 o])))),Y D (X.fl ah)]) (fun i=>!([2,4,7].contains i)) bK (fun _ _ _ A=>A.2) (fun _ _ A=>A) (by kernel_rfl)<|have a:=a.drew;show lxE _ _ _ _ _ _ _ [0,1,2,3,4,5,6,7,8,9,10,11,12,13,14,15,16,17,18,19,20,21,22,23,24,25,26] _ _ from an 2 Z a<|M h fun ap b4 h=>aY a Z Z (by kernel_rfl) Z (cc p (-6) b4 ) Z ?_
  rintro _ w ⟨rfl,E⟩
  have a:=a.e E
  refine an 1 Z a<|M h fun aq b5 h=>aY a Z Z (by kernel_rfl) Z (cc p (-11) b5 ) Z ?_
  rintro _ w ⟨rfl,E⟩
  have a:=a.e E
  refine J a Z Z (fun w b=>aj Z Z (fW _ ap aq)) Z<|an 1 Z a<|M h fun aF b6 h=>aY a Z Z (by kernel_rfl) Z (cc p (-25) b6 ) Z ?_
  rintro _ w ⟨rfl,E⟩
  have a:=a.e E
  refine J a Z Z (fun w b=>aj Z Z (fW _ (ap ^^^ aq) aF)) Z<|J a Z Z (fun w b=>aj Z Z (eP _ C ((ap ^^^ aq) ^^^ aF))) Z<|an 4 Z a<|J a Z Z (fun w b=>aj Z Z (fW _ u f)) Z<|J a Z Z (fun w b=>aj Z Z (km _ p (u ^^^ f))) Z<|J a Z Z (fun w b=>aj Z Z (fW _ f (p &&& (u ^^^ f)))) Z<|J a Z Z (fun w b=>aj Z Z (eP _ (C+((ap ^^^ aq) ^^^ aF)) (f ^^^ (p &&& (u ^^^ f))))) Z<|an 1 Z a<|M h fun bS bA h=>J a Z Z (fun w b=>bZ u206 dS Z Z (bT bA (show F.HX.length=64 from Z))) Z<|J a Z Z (fun w b=>ar u106 Z Z (hT.sha_k256.cell b.fr bA Z)) Z<|J a Z Z (fun w b=>aj Z Z (eP _ ((C+((ap ^^^ aq) ^^^ aF))+(f ^^^ (p &&& (u ^^^ f)))) bS)) Z<|an 1 Z a<|M h fun cl bB h=>J a Z Z (fun w b=>bZ u206 dS Z Z (bT bB G)) Z<|J a Z Z (fun w b=>ar u106 Z Z (b.r 1 Z (Up.elr Up.last bB Z))) Z<|J a Z Z (fun w b=>aj Z Z (eP _ (((C+((ap ^^^ aq) ^^^ aF))+(f ^^^ (p &&& (u ^^^ f))))+bS) cl)) Z<|bg h fun aI b7 h=>J a Z Z (fun w b=>bd (v:=v32 aI) (by rw[<-b7]; rfl)) Z<|a8 a<|am<|R<|V 1 Z ?_
  exact M h fun aT b8 h=>aS a Z (cc d (-2) b8 ) Z fun w a=>V 1 Z<|M h fun aU b9 h=>aS a Z (cc d (-13) b9 ) Z fun w a=>O (aj Z Z (fW _ aT aU)) Z<|V 1 Z<|M h fun bU ca h=>aS a Z (cc d (-22) ca ) Z fun w a=>O (aj Z Z (fW _ (aT ^^^ aU) bU)) Z<|V 2 Z<|O (aj Z Z (km _ d t)) Z<|V 3 Z<|O (aj Z Z (gw _ d t)) Z<|O (aj Z Z (km _ B (d ||| t))) Z<|O (aj Z Z (gw _ (d &&& t) (B &&& (d ||| t)))) Z<|O (aj Z Z (eP _ ((aT ^^^ aU) ^^^ bU) ((d &&& t) ||| (B &&& (d ||| t))))) Z<|bg h fun aV cb h=>O (bd (v:=v32 aV) (by rw[<-cb]; rfl)) Z<|Q<|al<|V 5 Z<|O (aj Z Z (eP _ T aI)) Z<|V 5 Z<|O (aj Z Z (eP _ aI aV)) Z<|V 8 Z<|aG<|aH<|am<|al<|V 2 Z<|aG<|bo (br (b3 (aI+aV,d,t,B,T+aI,p,u,f,wI (ck+1)) _ _ ⟨Z,a⟩ (aW h bz)) Z)
 refine aZ<|aA<|aA<|have h:=aR h bz;a7<|am<|R<|V 8 Z<|O (bR (vs:=[(0,v32 d,[v32 d]),(1,v32 t,[v32 t]),(2,v32 B,[v32 B]),(3,v32 T,[v32 T]),(4,v32 p,[v32 p]),(5,v32 u,[v32 u]),(6,v32 f,[v32 f]),(7,v32 C,[v32 C])]) (cells:=[v32 d,v32 t,v32 B,v32 T,v32 p,v32 u,v32 f,v32 C]) Z EE ⟨Z,Z,Z,Z,Z,Z,Z,Z,K⟩ (by kernel_rfl)) Z<|V 1 Z<|Q<|av<|ax [(0,P l 0),(204,.agg #[v32 d,v32 t,v32 B,v32 T,v32 p,v32 u,v32 f,v32 C]),(205,H 0)] Z ?_
 refine bf (F.Jy n g j o d t B T p u f C) (fun (s:Int×Q0) L w=>L=[(0,P l 0),(204,.agg #[v32 d,v32 t,v32 B,v32 T,v32 p,v32 u,v32 f,v32 C]),(205,H s.1)]/\s.2.length=8/\St S w0 w [Y l ([H n]++(X.fl s.2++(e64.fl g++(e8.fl j++[v64 o]))))]) ?_ (0,q) ⟨Z,c,(a.d [0] Z Z)⟩ h
 rintro cA ⟨cm,cn⟩ L w cB hI cd h bC
 try dsimp only at hI
 obtain⟨rfl,au,a⟩:=hI
 unfold F.Jy at h
 refine R<|V 1 Z<|gl1 ?_
 apply gl9 Z h<;>intro h
 ·refine gl5<|az<|av<|R<|V 1 Z<|M h fun bV bD h=>O (mI (cs:=(X.fl ([d,t,B,T,p,u,f,C]:Q0)).toArray) u150 u106 Z dS Z Z (bT bD Z) (oW bD Z)) Z<|V 2 Z<|Q<|dy (fun w'=>St S w0 w' [Y l ([H n]++(X.fl cn++(e64.fl g++(e8.fl j++[v64 o]))))]) (fun i=>!([11].contains i)) bK (fun _ _ _ A=>A.2) (fun _ _ A=>A) (by kernel_rfl)<|have a:=a.drew;show lxE _ _ _ _ _ _ _ [0,1,2,3,4,5,6,7,8,9,10,11] _ _ from an 2 Z a<|J a Z Z (fun w b=>aK Z) Z<|J a Z Z (fun w b=>ak (k:=1) u169 Z Z im Z) Z<|M h fun bW bE h=>J a Z Z (fun w b=>bZ u150 dS Z Z (bT bE au)) Z<|J a Z Z (fun w b=>ar u106 Z Z (b.r 0 Z (Up.elr (Up.m (k:=1) Z Up.o Z) bE Z))) Z<|an 1 Z a<|J a Z Z (fun w b=>aj Z Z (eP _ bW bV)) Z<|J a Z Z (fun w b=>aK Z) Z<|J a Z Z (fun w b=>ak (k:=1) u169 Z Z im Z) Z<|M h fun cC bF h=>J a Z Z (fun w b=>bZ u150 dS Z Z (bT bF au)) Z<|gu a Z Z (fS (m:=1) Z dS Z Z Z (Up.elt (t':=(bW+bV)) (Up.m (k:=1) Z Up.o Z) bF Z Z) Z Z (gI Z) a (i:=0)) ?_
  intro w a
  obtain⟨co,bG,h⟩:=fD h
  rw[bG]at a
  exact a8 K<|aH<|am<|al<|V 2 Z<|aG<|bo (br (cd (wI (cm+1),co) _ _ ⟨Z,(by rw[<-bG,List.length_set]; exact au),a⟩ (aW h bC)) Z)
 refine aZ<|aA<|aA<|have h:=aR h bC;a7 ?_
 cases h
 exact gp Z ⟨Z,au,y,x,a.d [0] Z Z⟩
theorem ni {T:World} {c:Nat} {S:Q2} (n:Int) (j:Q0) (t:List UInt64) (l:Q1) (o:UInt64) {r:Int×Q0×List UInt64×Q1×UInt64}
  (h:F.Lv n j t l o=some r) (a:St S T T [Y c ([H n]++(X.fl j++(e64.fl t++(e8.fl l++[v64 o]))))]) (hT:TB S T) (g:j.length=8) (q:t.length=8) (ac:l.length=128):Calls Tryz.prog 157 #[P c 0] T (Ret fun v w=>v=.tuple #[]/\r.2.1.length=8/\r.2.2.1.length=8/\r.2.2.2.1.length=128/\St S T w [Y c ([H r.1]++(X.fl r.2.1++(e64.fl r.2.2.1++(e8.fl r.2.2.2.1++[v64 r.2.2.2.2]))))]):=by
 refine ay 216 Tryz.func157 Z Z Z<|ax [(0,P c 0)] Z ?_
 unfold F.Lv at h
 refine R<|bl (bc (cs:=e64.fl (List.replicate 80 0)) FN (by kernel_rfl) a) Z fun y w a=>gl1<|R<|V 1 Z<|Q<|av<|ax [(0,P c 0),(2,P y 0),(22,H 0)] Z ?_
 refine bf (F.KY l t n j o) (fun (s:Int×List UInt64) L w=>L=[(0,P c 0),(2,P y 0),(22,H s.1)]/\s.2.length=80/\St S T w [Y c ([H n]++(X.fl j++(e64.fl t++(e8.fl l++[v64 o])))),Y y (e64.fl s.2)]) ?_ (0,(List.replicate 80 0)) ⟨Z,List.length_replicate,(a.d [1,0] Z Z)⟩ h
 rintro cy ⟨G,cj⟩ L w cL hI ck h bJ
 try dsimp only at hI
 obtain⟨rfl,bL,a⟩:=hI
 unfold F.KY at h
 refine R<|V 1 Z<|gl1 ?_
 apply gl9 Z h<;>intro h
 ·refine gl5<|az<|av<|R<|V 2 Z<|gl2<|V 1 Z<|O (aK Z) Z<|O (ak (k:=17) u169 Z Z ya Z) Z<|V 1 Z<|O (aj Z Z (ee _ 8 G)) Z<|V 1 Z<|O (aj Z Z (ee _ 8 G)) Z<|V 1 Z<|M h fun aT aq h=>O (Fk (e:=e8) u167 sz5 Z Z Z Z ac aq) Z<|O (aD u25 Z ((a.bxroA 0 Z ac (Up.m (k:=1) Z (Up.m (k:=8) (bk g Z) (Up.m (k:=8) (bk q Z) Up.o Z) Z) Z)).g_sl aq)) Z<|V 1 Z<|Q<|av<|ax [(0,P c 0),(2,P y 0),(3,H G),(22,H G),(33,slV (.slice (some ⟨c,17,none⟩) 128 128) e8.sz ((wI (8*G):Int).toNat) ((wI ((wI (8*G))+8):Int).toNat)),(34,H (aT.length:Int)),(35,H 0)] Z ?_
  refine bf (F.Jz G aT) (fun (s:Int×List UInt64) L w=>L=[(0,P c 0),(2,P y 0),(3,H G),(22,H G),(33,slV (.slice (some ⟨c,17,none⟩) 128 128) e8.sz ((wI (8*G):Int).toNat) ((wI ((wI (8*G))+8):Int).toNat)),(34,H (aT.length:Int)),(35,H s.1)]/\s.2.length=80/\St S T w [Y c ([H n]++(X.fl j++(e64.fl t++(e8.fl l++[v64 o])))),Y y (e64.fl s.2)]) ?_ (0,cj) ⟨Z,bL,a⟩ h
  rintro cz ⟨cl,cm⟩ L w cA hI b1 h a3
  try dsimp only at hI
  obtain⟨rfl,au,a⟩:=hI
  unfold F.Jz at h
  refine R<|V 1 Z<|gl1 ?_
  apply gl9 Z h<;>intro h
  ·refine gl5<|az<|av<|R<|M h fun aU a4 h=>O (bh u25 ti5 Z Z ((a.bxroA 0 Z ac (Up.m (k:=1) Z (Up.m (k:=8) (bk g Z) (Up.m (k:=8) (bk q Z) Up.o Z) Z) Z)).g_sl aq) a4) Z<|O (aX Tryz.underlying5 Z Z ((a.bxroA 0 Z ac (Up.m (k:=1) Z (Up.m (k:=8) (bk g Z) (Up.m (k:=8) (bk q Z) Up.o Z) Z) Z)).g_sl aq) a4 Z) Z<|V 1 Z<|Q<|al<|V 2 Z<|M h fun aV a5 h=>O (bZ u208 dO Z Z (bT a5 au)) Z<|O (ar u103 Z Z (a.r 1 Z (Up.elr Up.last a5 Z))) Z<|O (aj Z Z (cp _ aV 8)) Z<|V 1 Z<|O (aE Z (mc Tryz.underlying5 u103 aU)) Z<|O (aj Z Z (dL _ (aF aV 8) aU.toUInt64)) Z<|M h fun cB a6 h=>O (bZ u208 dO Z Z (bT a6 au)) Z<|bm (fS (m:=1) Z dO Z Z Z (Up.elt (t':=((aF aV 8) ||| aU.toUInt64)) Up.last a6 Z Z) Z Z (gI Z) a (i:=1)) fun w a=>bg h fun cn a9 h=>?_
   rw[a9]at a
   exact aG<|aH<|am<|al<|V 2 Z<|aG<|bo (br (b1 (wI (cl+1),cn) _ _ ⟨Z,(by rw[<-a9,List.length_set]; exact au),a⟩ (aW h a3)) Z)
  exact aZ<|aA<|aA<|have h:=aR h a3;a7<|aH<|am<|al<|V 2 Z<|aG<|bo (br (ck (wI (G+1),cm) _ _ ⟨Z,au,a⟩ (aW h bJ)) Z)
 refine aZ<|aA<|aA<|have h:=aR h bJ;a7<|am<|az<|R<|V 1 Z<|Q<|av<|ax [(0,P c 0),(2,P y 0),(6,H 16)] Z ?_
 refine bf (F.Id t n j l o) (fun (s:Int×List UInt64) L w=>L=[(0,P c 0),(2,P y 0),(6,H s.1)]/\s.2.length=80/\St S T w [Y c ([H n]++(X.fl j++(e64.fl t++(e8.fl l++[v64 o])))),Y y (e64.fl s.2)]) ?_ (16,cj) ⟨Z,bL,a⟩ h
 rintro cD ⟨co,ae⟩ L w cE hI b2 h ba
 try dsimp only at hI
 obtain⟨rfl,C,a⟩:=hI
 unfold F.Id at h
 refine az<|R<|V 2 Z<|Q ?_
 apply gl9 Z h<;>intro h
 ·refine gl5<|az<|av<|az<|aQ (fun w'=>St S T w' [Y c ([H n]++(X.fl j++(e64.fl t++(e8.fl l++[v64 o])))),Y y (e64.fl ae)]) (fun _=>true) bK (fun _ _ _ D=>D.2) (fun _ _ D=>D) (by kernel_rfl)<|have a:=a.drew;show lxE _ _ _ _ _ _ _ [0,1,2,3,4,5,6,7,8,9] _ _ from an 2 Z a<|M h fun ab bb h=>J a Z Z (fun w b=>bZ u208 dO Z Z (bT bb C)) Z<|J a Z Z (fun w b=>ar u103 Z Z (b.r 1 Z (Up.elr Up.last bb Z))) Z<|an 2 Z a<|M h fun ah be h=>J a Z Z (fun w b=>bZ u208 dO Z Z (bT be C)) Z<|J a Z Z (fun w b=>ar u103 Z Z (b.r 1 Z (Up.elr Up.last be Z))) Z<|an 2 Z a<|a8 a<|am<|dy (fun w'=>St S T w' [Y c ([H n]++(X.fl j++(e64.fl t++(e8.fl l++[v64 o])))),Y y (e64.fl ae)]) (fun i=>!([11,13,20,22,29].contains i)) bK (fun _ _ _ D=>D.2) (fun _ _ D=>D) (by kernel_rfl)<|have a:=a.drew;show lxE _ _ _ _ _ _ _ [0,1,2,3,4,5,6,7,8,9,10,11,12,13,14,15,16,17,18,19,20,21,22,23,24,25,26,27,28,29] _ _ from an 3 Z a<|M h fun aL bi h=>J a Z Z (fun w b=>bZ u208 dO Z Z (bT bi C)) Z<|J a Z Z (fun w b=>ar u103 Z Z (b.r 1 Z (Up.elr Up.last bi Z))) Z<|an 2 Z a ?_
  refine M h fun aM bj h=>J a Z Z (fun w b=>bZ u208 dO Z Z (bT bj C)) Z<|J a Z Z (fun w b=>ar u103 Z Z (b.r 1 Z (Up.elr Up.last bj Z))) Z<|J a Z Z (fun w b=>aj Z Z (cC _ aL aM)) Z<|an 1 Z a<|M h fun aB b3 h=>aY a Z Z (by kernel_rfl) Z (cd ab (-1) b3 ) Z ?_
  rintro _ w ⟨rfl,B⟩
  have a:=a.e B
  refine an 1 Z a<|M h fun aC b4 h=>aY a Z Z (by kernel_rfl) Z (cd ab (-8) b4 ) Z ?_
  rintro _ w ⟨rfl,B⟩
  have a:=a.e B
  refine J a Z Z (fun w b=>aj Z Z (fN _ aB aC)) Z<|an 1 Z a<|J a Z Z (fun w b=>aj Z Z (ca _ ab 7)) Z<|J a Z Z (fun w b=>aj Z Z (fN _ (aB ^^^ aC) (aP ab 7))) Z<|J a Z Z (fun w b=>aj Z Z (cC _ (aL+aM) ((aB ^^^ aC) ^^^ (aP ab 7)))) Z<|an 1 Z a<|M h fun aN b5 h=>aY a Z Z (by kernel_rfl) Z (cd ah (-19) b5 ) Z ?_
  rintro _ w ⟨rfl,B⟩
  have a:=a.e B
  refine an 1 Z a<|M h fun aO b6 h=>aY a Z Z (by kernel_rfl) Z (cd ah (-61) b6 ) Z ?_
  rintro _ w ⟨rfl,B⟩
  have a:=a.e B
  refine J a Z Z (fun w b=>aj Z Z (fN _ aN aO)) Z<|an 1 Z a<|J a Z Z (fun w b=>aj Z Z (ca _ ah 6)) Z<|J a Z Z (fun w b=>aj Z Z (fN _ (aN ^^^ aO) (aP ah 6))) Z<|J a Z Z (fun w b=>aj Z Z (cC _ ((aL+aM)+((aB ^^^ aC) ^^^ (aP ab 7))) ((aN ^^^ aO) ^^^ (aP ah 6)))) Z<|M h fun cF bn h=>J a Z Z (fun w b=>bZ u208 dO Z Z (bT bn C)) Z<|gu a Z Z (fS (m:=1) Z dO Z Z Z (Up.elt (t':=(((aL+aM)+((aB ^^^ aC) ^^^ (aP ab 7)))+((aN ^^^ aO) ^^^ (aP ah 6)))) Up.last bn Z Z) Z Z (gI Z) a (i:=1)) fun w a=>bg h fun cq bp h=>?_
  rw[bp]at a
  exact a8 K<|aH<|am<|al<|V 3 Z<|aG<|bo (br (b2 (wI (co+1),cq) _ _ ⟨Z,(by rw[<-bp,List.length_set]; exact C),a⟩ (aW h ba)) Z)
 refine aZ<|aA<|aA<|have h:=aR h ba;a7<|am<|az<|aQ (fun w'=>St S T w' [Y c ([H n]++(X.fl j++(e64.fl t++(e8.fl l++[v64 o])))),Y y (e64.fl ae)]) (fun _=>true) bK (fun _ _ _ D=>D.2) (fun _ _ D=>D) (by kernel_rfl)<|have a:=a.drew;show lxE _ _ _ _ _ _ _ [0,1,2,3,4,5,6,7,8,9,10,11,12,13,14,15,16,17,18,19,20,21,22,23,24,25,26,27,28,29,30,31,32,33,34,35,36,37,38,39,40,41,42,43,44,45,46,47] _ _ from an 1 Z a<|J a Z Z (fun w b=>aK Z) Z<|J a Z Z (fun w b=>ak (k:=9) u169 Z Z gW Z) Z<|M h fun bM bq h=>J a Z Z (fun w b=>bZ u166 dO Z Z (bT bq q)) Z<|J a Z Z (fun w b=>ar u103 Z Z (b.r 0 Z (Up.elr (Up.m (k:=1) Z (Up.m (k:=8) (bk g Z) Up.o Z) Z) bq Z))) Z<|an 1 Z a<|J a Z Z (fun w b=>aK Z) Z<|J a Z Z (fun w b=>ak (k:=9) u169 Z Z gW Z) Z<|M h fun bN bs h=>J a Z Z (fun w b=>bZ u166 dO Z Z (bT bs q)) Z<|J a Z Z (fun w b=>ar u103 Z Z (b.r 0 Z (Up.elr (Up.m (k:=1) Z (Up.m (k:=8) (bk g Z) Up.o Z) Z) bs Z))) Z<|an 1 Z a<|J a Z Z (fun w b=>aK Z) Z<|J a Z Z (fun w b=>ak (k:=9) u169 Z Z gW Z) Z ?_
 refine M h fun bO bt h=>J a Z Z (fun w b=>bZ u166 dO Z Z (bT bt q)) Z<|J a Z Z (fun w b=>ar u103 Z Z (b.r 0 Z (Up.elr (Up.m (k:=1) Z (Up.m (k:=8) (bk g Z) Up.o Z) Z) bt Z))) Z<|an 1 Z a<|J a Z Z (fun w b=>aK Z) Z<|J a Z Z (fun w b=>ak (k:=9) u169 Z Z gW Z) Z<|M h fun bP bu h=>J a Z Z (fun w b=>bZ u166 dO Z Z (bT bu q)) Z<|J a Z Z (fun w b=>ar u103 Z Z (b.r 0 Z (Up.elr (Up.m (k:=1) Z (Up.m (k:=8) (bk g Z) Up.o Z) Z) bu Z))) Z<|an 1 Z a<|J a Z Z (fun w b=>aK Z) Z<|J a Z Z (fun w b=>ak (k:=9) u169 Z Z gW Z) Z<|M h fun bQ bv h=>J a Z Z (fun w b=>bZ u166 dO Z Z (bT bv q)) Z<|J a Z Z (fun w b=>ar u103 Z Z (b.r 0 Z (Up.elr (Up.m (k:=1) Z (Up.m (k:=8) (bk g Z) Up.o Z) Z) bv Z))) Z<|an 1 Z a<|J a Z Z (fun w b=>aK Z) Z<|J a Z Z (fun w b=>ak (k:=9) u169 Z Z gW Z) Z<|M h fun bS bw h=>J a Z Z (fun w b=>bZ u166 dO Z Z (bT bw q)) Z<|J a Z Z (fun w b=>ar u103 Z Z (b.r 0 Z (Up.elr (Up.m (k:=1) Z (Up.m (k:=8) (bk g Z) Up.o Z) Z) bw Z))) Z ?_
 refine an 1 Z a<|J a Z Z (fun w b=>aK Z) Z<|J a Z Z (fun w b=>ak (k:=9) u169 Z Z gW Z) Z<|M h fun bU bz h=>J a Z Z (fun w b=>bZ u166 dO Z Z (bT bz q)) Z<|J a Z Z (fun w b=>ar u103 Z Z (b.r 0 Z (Up.elr (Up.m (k:=1) Z (Up.m (k:=8) (bk g Z) Up.o Z) Z) bz Z))) Z<|an 1 Z a<|J a Z Z (fun w b=>aK Z) Z<|J a Z Z (fun w b=>ak (k:=9) u169 Z Z gW Z) Z<|M h fun bV bA h=>J a Z Z (fun w b=>bZ u166 dO Z Z (bT bA q)) Z<|J a Z Z (fun w b=>ar u103 Z Z (b.r 0 Z (Up.elr (Up.m (k:=1) Z (Up.m (k:=8) (bk g Z) Up.o Z) Z) bA Z))) Z<|an 8 Z a<|a8 a<|am<|az<|R<|V 1 Z<|Q<|av<|ax [(0,P c 0),(2,P y 0),(9,v64 bM),(10,v64 bN),(11,v64 bO),(12,v64 bP),(13,v64 bQ),(14,v64 bS),(15,v64 bU),(16,v64 bV),(131,H 0)] Z ?_
 refine bf (F.Kz t ae n j l o) (fun (s:UInt64×UInt64×UInt64×UInt64×UInt64×UInt64×UInt64×UInt64×Int) L w=>L=[(0,P c 0),(2,P y 0),(9,v64 s.1),(10,v64 s.2.1),(11,v64 s.2.2.1),(12,v64 s.2.2.2.1),(13,v64 s.2.2.2.2.1),(14,v64 s.2.2.2.2.2.1),(15,v64 s.2.2.2.2.2.2.1),(16,v64 s.2.2.2.2.2.2.2.1),(131,H s.2.2.2.2.2.2.2.2)]/\St S T w [Y c ([H n]++(X.fl j++(e64.fl t++(e8.fl l++[v64 o])))),Y y (e64.fl ae)]) ?_ (bM,bN,bO,bP,bQ,bS,bU,bV,0) ⟨Z,a⟩ h
 rintro cG ⟨d,u,z,E,p,x,f,A,cr⟩ L w cH hI b7 h bB
 try dsimp only at hI
 obtain⟨rfl,a⟩:=hI
 unfold F.Kz at h
 refine R<|V 1 Z<|gl1 ?_
 apply gl9 Z h<;>intro h
 ·refine gl5<|az<|av<|R<|V 2 Z<|gl1<|aQ (fun w'=>St S T w' [Y c ([H n]++(X.fl j++(e64.fl t++(e8.fl l++[v64 o])))),Y y (e64.fl ae)]) (fun i=>!([2,4,7].contains i)) bK (fun _ _ _ D=>D.2) (fun _ _ D=>D) (by kernel_rfl)<|have a:=a.drew;show lxE _ _ _ _ _ _ _ [0,1,2,3,4,5,6,7,8,9,10,11,12,13,14,15,16,17,18,19,20,21,22,23,24,25,26] _ _ from an 2 Z a<|M h fun ao b8 h=>aY a Z Z (by kernel_rfl) Z (cd p (-14) b8 ) Z ?_
  rintro _ w ⟨rfl,B⟩
  have a:=a.e B
  refine an 1 Z a<|M h fun ap b9 h=>aY a Z Z (by kernel_rfl) Z (cd p (-18) b9 ) Z ?_
  rintro _ w ⟨rfl,B⟩
  have a:=a.e B
  refine J a Z Z (fun w b=>aj Z Z (fN _ ao ap)) Z<|an 1 Z a<|M h fun aI cb h=>aY a Z Z (by kernel_rfl) Z (cd p (-41) cb ) Z ?_
  rintro _ w ⟨rfl,B⟩
  have a:=a.e B
  refine J a Z Z (fun w b=>aj Z Z (fN _ (ao ^^^ ap) aI)) Z<|J a Z Z (fun w b=>aj Z Z (cC _ A ((ao ^^^ ap) ^^^ aI))) Z<|an 4 Z a<|J a Z Z (fun w b=>aj Z Z (fN _ x f)) Z<|J a Z Z (fun w b=>aj Z Z (fX _ p (x ^^^ f))) Z<|J a Z Z (fun w b=>aj Z Z (fN _ f (p &&& (x ^^^ f)))) Z<|J a Z Z (fun w b=>aj Z Z (cC _ (A+((ao ^^^ ap) ^^^ aI)) (f ^^^ (p &&& (x ^^^ f))))) Z<|an 1 Z a<|M h fun bW bC h=>J a Z Z (fun w b=>bZ u208 dO Z Z (bT bC (show F.HG.length=80 from Z))) Z<|J a Z Z (fun w b=>ar u103 Z Z (hT.sha_k512.cell b.fr bC Z)) Z<|J a Z Z (fun w b=>aj Z Z (cC _ ((A+((ao ^^^ ap) ^^^ aI))+(f ^^^ (p &&& (x ^^^ f)))) bW)) Z<|an 1 Z a<|M h fun ct bD h=>J a Z Z (fun w b=>bZ u208 dO Z Z (bT bD C)) Z<|J a Z Z (fun w b=>ar u103 Z Z (b.r 1 Z (Up.elr Up.last bD Z))) Z<|J a Z Z (fun w b=>aj Z Z (cC _ (((A+((ao ^^^ ap) ^^^ aI))+(f ^^^ (p &&& (x ^^^ f))))+bW) ct)) Z<|bg h fun aJ cc h=>J a Z Z (fun w b=>bd (v:=v64 aJ) (by rw[<-cc]; rfl)) Z<|a8 a<|am<|R<|V 1 Z ?_
  exact M h fun a0 ce h=>aS a Z (cd d (-28) ce ) Z fun w a=>V 1 Z<|M h fun a1 cf h=>aS a Z (cd d (-34) cf ) Z fun w a=>O (aj Z Z (fN _ a0 a1)) Z<|V 1 Z<|M h fun bX cg h=>aS a Z (cd d (-39) cg ) Z fun w a=>O (aj Z Z (fN _ (a0 ^^^ a1) bX)) Z<|V 2 Z<|O (aj Z Z (fX _ d u)) Z<|V 3 Z<|O (aj Z Z (dL _ d u)) Z<|O (aj Z Z (fX _ z (d ||| u))) Z<|O (aj Z Z (dL _ (d &&& u) (z &&& (d ||| u)))) Z<|O (aj Z Z (cC _ ((a0 ^^^ a1) ^^^ bX) ((d &&& u) ||| (z &&& (d ||| u))))) Z<|bg h fun a2 ch h=>O (bd (v:=v64 a2) (by rw[<-ch]; rfl)) Z<|Q<|al<|V 5 Z<|O (aj Z Z (cC _ E aJ)) Z<|V 5 Z<|O (aj Z Z (cC _ aJ a2)) Z<|V 8 Z<|aG<|aH<|am<|al<|V 2 Z<|aG<|bo (br (b7 (aJ+a2,d,u,z,E+aJ,p,x,f,wI (cr+1)) _ _ ⟨Z,a⟩ (aW h bB)) Z)
 refine aZ<|aA<|aA<|have h:=aR h bB;a7<|am<|R<|V 8 Z<|O (bR (vs:=[(0,v64 d,[v64 d]),(1,v64 u,[v64 u]),(2,v64 z,[v64 z]),(3,v64 E,[v64 E]),(4,v64 p,[v64 p]),(5,v64 x,[v64 x]),(6,v64 f,[v64 f]),(7,v64 A,[v64 A])]) (cells:=[v64 d,v64 u,v64 z,v64 E,v64 p,v64 x,v64 f,v64 A]) Z Ex ⟨Z,Z,Z,Z,Z,Z,Z,Z,K⟩ (by kernel_rfl)) Z<|V 1 Z<|Q<|av<|ax [(0,P c 0),(199,.agg #[v64 d,v64 u,v64 z,v64 E,v64 p,v64 x,v64 f,v64 A]),(200,H 0)] Z ?_
 refine bf (F.Kd n j l o d u z E p x f A) (fun (s:Int×List UInt64) L w=>L=[(0,P c 0),(199,.agg #[v64 d,v64 u,v64 z,v64 E,v64 p,v64 x,v64 f,v64 A]),(200,H s.1)]/\s.2.length=8/\St S T w [Y c ([H n]++(X.fl j++(e64.fl s.2++(e8.fl l++[v64 o]))))]) ?_ (0,t) ⟨Z,q,(a.d [0] Z Z)⟩ h
 rintro cI ⟨cu,cv⟩ L w cJ hI ci h bE
 try dsimp only at hI
 obtain⟨rfl,aw,a⟩:=hI
 unfold F.Kd at h
 refine R<|V 1 Z<|gl1 ?_
 apply gl9 Z h<;>intro h
 ·refine gl5<|az<|av<|R<|V 1 Z<|M h fun bY bF h=>O (mI (cs:=(e64.fl ([d,u,z,E,p,x,f,A]:List UInt64)).toArray) u166 u103 Z dO Z Z (bT bF Z) (oW bF Z)) Z<|V 2 Z<|Q<|dy (fun w'=>St S T w' [Y c ([H n]++(X.fl j++(e64.fl cv++(e8.fl l++[v64 o]))))]) (fun i=>!([11].contains i)) bK (fun _ _ _ D=>D.2) (fun _ _ D=>D) (by kernel_rfl)<|have a:=a.drew;show lxE _ _ _ _ _ _ _ [0,1,2,3,4,5,6,7,8,9,10,11] _ _ from an 2 Z a<|J a Z Z (fun w b=>aK Z) Z<|J a Z Z (fun w b=>ak (k:=9) u169 Z Z gW Z) Z<|M h fun b0 bG h=>J a Z Z (fun w b=>bZ u166 dO Z Z (bT bG aw)) Z<|J a Z Z (fun w b=>ar u103 Z Z (b.r 0 Z (Up.elr (Up.m (k:=1) Z (Up.m (k:=8) (bk g Z) Up.o Z) Z) bG Z))) Z<|an 1 Z a<|J a Z Z (fun w b=>aj Z Z (cC _ b0 bY)) Z<|J a Z Z (fun w b=>aK Z) Z<|J a Z Z (fun w b=>ak (k:=9) u169 Z Z gW Z) Z<|M h fun cK bH h=>J a Z Z (fun w b=>bZ u166 dO Z Z (bT bH aw)) Z<|gu a Z Z (fS (m:=1) Z dO Z Z Z (Up.elt (t':=(b0+bY)) (Up.m (k:=1) Z (Up.m (k:=8) (bk g Z) Up.o Z) Z) bH Z Z) Z Z (gI Z) a (i:=0)) ?_
  intro w a
  obtain⟨cw,bI,h⟩:=fD h
  rw[bI]at a
  exact a8 K<|aH<|am<|al<|V 2 Z<|aG<|bo (br (ci (wI (cu+1),cw) _ _ ⟨Z,(by rw[<-bI,List.length_set]; exact aw),a⟩ (aW h bE)) Z)
 refine aZ<|aA<|aA<|have h:=aR h bE;a7 ?_
 cases h
 exact gp Z ⟨Z,g,aw,ac,a.d [0] Z Z⟩
theorem pc {n:World} {f:Nat} {S:Q2} (d:Int) (a:Q0) (b:List UInt64) (c:Q1) (e:UInt64) {r:Int×Q0×List UInt64×Q1×UInt64}
  (h:F.Ji d a b c e=some r) (g:St S n n [Y f ([H d]++(X.fl a++(e64.fl b++(e8.fl c++[v64 e]))))]) (A:TB S n) (j:a.length=8) (l:b.length=8) (m:c.length=128):Calls Tryz.prog 115 #[P f 0] n (Ret fun v w=>v=.tuple #[]/\r.2.1.length=8/\r.2.2.1.length=8/\r.2.2.2.1.length=128/\St S n w [Y f ([H r.1]++(X.fl r.2.1++(e64.fl r.2.2.1++(e8.fl r.2.2.2.1++[v64 r.2.2.2.2]))))]):=by
 refine ay 11 Tryz.func115 Z Z Z<|ax [(0,P f 0)] Z ?_
 unfold F.Ji at h
 refine R<|V 1 Z<|O (aK Z) Z<|O (ak (k:=0) u169 Z Z r9 Z) Z<|O (ar u31 Z Z (g.r 0 Z (Up.get0 Up.o))) Z<|V 1 Z<|Q ?_
 apply gl9 Z h<;>intro h
 ·refine al<|V 1 Z<|have i:=g.pick (os':=[Y f ([H d]++(X.fl a++(e64.fl b++(e8.fl c++[v64 e]))))]++[]) [0] (by decide) Z;M h fun B p h=>aJ Z (nk d a b c e p i.f (A.f i) j l m) Z ?_
  rintro _ w ⟨rfl,q,s,t,o⟩
  have g:=i.g o
  refine aG ?_
  cases h
  exact gp Z ⟨Z,q,s,t,g.d [0] Z Z⟩
 refine al<|V 1 Z<|have i:=g.pick (os':=[Y f ([H d]++(X.fl a++(e64.fl b++(e8.fl c++[v64 e]))))]++[]) [0] (by decide) Z;M h fun C u h=>aJ Z (ni d a b c e u i.f (A.f i) j l m) Z ?_
 rintro _ w ⟨rfl,x,y,z,o⟩
 have g:=i.g o
 refine aG ?_
 cases h
 exact gp Z ⟨Z,x,y,z,g.d [0] Z Z⟩
theorem j5 {B:World} {a1:Q1} {C:Value} {n:Nat} {S:Q2} (t:Int) (u:Q0) (x:List UInt64) (y:Q1) (E:UInt64) {r:Int×Q0×List UInt64×Q1×UInt64}
  (h:F.H3 t u x y E a1=some r) (c:St S B B [Y n ([H t]++(X.fl u++(e64.fl x++(e8.fl y++[v64 E]))))]) (hT:TB S B) (ah:u.length=8) (J:x.length=8) (am:y.length=128) (aM:RP S B e8 C a1):Calls Tryz.prog 74 #[P n 0,C] B (Ret fun v w=>v=.tuple #[]/\r.2.1.length=8/\r.2.2.1.length=8/\r.2.2.2.1.length=128/\St S B w [Y n ([H r.1]++(X.fl r.2.1++(e64.fl r.2.2.1++(e8.fl r.2.2.2.1++[v64 r.2.2.2.2]))))]):=by
 refine ay 50 Tryz.func74 Z Z Z<|ax [(0,P n 0),(1,C)] Z ?_
 unfold F.H3 at h
 refine R<|V 1 Z<|O (aK Z) Z<|O (ak (k:=0) u169 Z Z r9 Z) Z<|O (ar u31 Z Z (c.r 0 Z (Up.get0 Up.o))) Z<|M h fun q aF h=>aS c Z (fG t aF ) Z fun w c=>V 1 Z<|Q<|av<|ax [(0,P n 0),(1,C),(4,H q)] Z ?_
 refine bf (F.Ib q) (fun (s:Q1×Int×Q0×List UInt64×Q1×UInt64) L w=>∃(D:Value),L=[(0,P n 0),(1,D),(4,H q)]/\RP S B e8 D s.1/\s.2.2.1.length=8/\s.2.2.2.1.length=8/\s.2.2.2.2.1.length=128/\St S B w [Y n ([H s.2.1]++(X.fl s.2.2.1++(e64.fl s.2.2.2.1++(e8.fl s.2.2.2.2.1++[v64 s.2.2.2.2.2]))))]) ?_ (a1,t,u,x,y,E) ⟨C,Z,aM,ah,J,am,c⟩ h
 rintro aQ ⟨aC,ab,ac,ad,aT,g⟩ L w aU hI T h z
 try dsimp only at hI
 obtain⟨D,rfl,o,j,d,b,c⟩:=hI
 unfold F.Ib at h
 refine az<|R<|V 1 Z<|O (aD u25 Z (o.b c.fr)) Z<|V 1 Z<|Q ?_
 apply gl9 Z h<;>intro h
 ·refine gl5<|av<|R<|V 1 Z<|O (aK Z) Z<|O (ak (k:=145) u169 Z Z tM Z) Z<|O (ar u103 Z Z (c.r 0 Z (Up.get0 (Up.m (k:=1) Z (Up.m (k:=8) (bk j Z) (Up.m (k:=8) (bk d Z) (Up.m (k:=128) (bk b Z) Up.last Z) Z) Z) Z)))) Z<|V 1 Z<|O (aE Z (fv u3 u103 q)) Z<|db h fun an h=>O (aj Z Z (fp _ g (UInt64.ofInt q) an)) Z<|O (aE Z (oD u103 u3 (g%(UInt64.ofInt q)))) Z<|bg h fun aI ao h=>O (bd (v:=H aI) (by rw[<-ao]; rfl)) Z<|gl2<|V 1 Z<|O (aK Z) Z<|O (ak (k:=17) u169 Z Z ya Z) Z<|V 2 Z<|M h fun aV a h=>O (Fk (e:=e8) u167 sz5 Z Z Z Z b a) Z<|V 1 Z<|bn (AE (e:=e8) u25 ti5 Z Z Z c (i:=0) Z b (Up.m (k:=1) Z (Up.m (k:=8) (bk j Z) (Up.m (k:=8) (bk d Z) Up.o Z) Z) Z) (o.b c.fr) (by have:=(cH a).1; omega) (cH a).1.2.2) Z ?_
  rintro v_q w ⟨hv_q,c⟩
  subst v_q
  obtain⟨G,l,h⟩:=fD h
  rw[l]at c
  refine bg h fun f ap h=>O (bd (v:=H f) (by rw[<-ap]; rfl)) Z<|gl2<|V 1 Z<|O (aK Z) Z<|O (ak (k:=145) u169 Z Z tM Z) Z<|O (ar u103 Z Z (c.r 0 Z (Up.get0 (Up.m (k:=1) Z (Up.m (k:=8) (bk j Z) (Up.m (k:=8) (bk d Z) (Up.m (k:=128) (bk (by rw[<-l,ej _ _ _ _ (by have:=(cH a).1; omega) (cH a).1.2.2]; exact b) Z) Up.last Z) Z) Z) Z)))) Z<|V 1 Z<|O (aE Z (fv u3 u103 f)) Z<|O (aj Z Z (cC _ g (UInt64.ofInt f))) Z<|O (aK Z) Z<|O (ak (k:=145) u169 Z Z tM Z) Z<|bm (fS (m:=1) (xs:=[v64 g]) (xs':=[v64 (g+(UInt64.ofInt f))]) (i:=0) Z dO Z Z Z (Up.m (k:=1) Z (Up.m (k:=8) (bk j Z) (Up.m (k:=8) (bk d Z) (Up.m (k:=128) (bk (by rw[<-l,ej _ _ _ _ (by have:=(cH a).1; omega) (cH a).1.2.2]; exact b) Z) Up.last Z) Z) Z) Z) Z Z (gI Z) c) fun w c=>gl2<|V 2 Z<|M h fun ae A h=>O (oG u25 ti5 Z Z (o.b c.fr) A) Z<|V 1 Z<|gl2<|V 5 Z<|Q ?_
  apply gl9 Z h<;>intro h
  ·refine al<|V 1 Z<|have hG:=c.pick (os':=[Y n ([H ab]++(X.fl ac++(e64.fl ad++(e8.fl G++[v64 (g+(UInt64.ofInt f))]))))]++[]) [0] (by decide) Z;M h fun p aq h=>aJ Z (pc ab ac ad G (g+(UInt64.ofInt f)) aq hG.f (hT.f hG) j d (by rw[<-l,ej _ _ _ _ (by have:=(cH a).1; omega) (cH a).1.2.2]; exact b)) Z ?_
   rintro _ w ⟨rfl,au,aw,aB,aO⟩
   have c:=hG.g aO
   exact aG<|aH<|bo (br (T (ae,p.1,p.2.1,p.2.2.1,p.2.2.2.1,p.2.2.2.2) _ _ ⟨slV D e8.sz ((f:Int).toNat) aC.length,Z,(o.g_sll A),au,aw,aB,c⟩ (aW h z)) Z)
  exact cf<|aH<|bo (br (T (ae,ab,ac,ad,G,g+(UInt64.ofInt f)) _ _ ⟨slV D e8.sz ((f:Int).toNat) aC.length,Z,(o.g_sll A),j,d,(by rw[<-l,ej _ _ _ _ (by have:=(cH a).1; omega) (cH a).1.2.2]; exact b),c⟩ (aW h z)) Z)
 refine aZ<|aA<|aA<|have h:=aR h z;a7 ?_
 cases h
 exact gp Z ⟨Z,j,d,b,c.d [0] Z Z⟩
end Go.Proofs
