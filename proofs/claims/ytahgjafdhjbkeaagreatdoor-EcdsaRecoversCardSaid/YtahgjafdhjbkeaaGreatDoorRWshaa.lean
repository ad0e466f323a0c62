import Derived.Test.YtahgjafdhjbkeaaGreatDoorRW0
import Derived.Test.YtahgjafdhjbkeaaGreatDoorGkFman
import Derived.Test.YtahgjafdhjbkeaaGreatDoorRWlib
set_option linter.unusedVariables false
set_option linter.unusedSimpArgs false
set_option linter.unusedSectionVars false
set_option maxRecDepth 4000
namespace Go.Proofs
open Go Go.RowKit Go.Gk
open Go.Gk renaming aa -> V, af -> J, ag -> N, ai -> H, e32 -> X, gl3 -> P, gl4 -> R, pB -> O, vB -> K, vI -> I
open Go.Gk.OE renaming bx -> Y
theorem lS {b:World} (a0:Int) {r:Int}
  (h:F.ER a0=some r) :Calls Tryz.prog 14 #[I a0] b (Ret fun v w=>v=I r/\St [] b w []):=by
 refine aB 10 Tryz.func14 Z Z Z<|have a:=St.k b;ax [(0,I a0)] Z ?_
 unfold F.ER at h
 refine R<|V 1 Z<|gl1<|R<|V 1 Z<|P<|aq<|R<|V 2 Z<|P ?_
 apply gl9 Z h<;>intro h
 ·refine R<|V 1 Z<|P<|ay<|bu<|aU ?_
  cases h
  exact az Z Z ⟨Z,a⟩
 refine R<|V 2 Z<|P ?_
 apply gl9 Z h<;>intro h
 ·refine R<|V 1 Z<|P<|ay<|bu<|aU ?_
  cases h
  exact az Z Z ⟨Z,a⟩
 refine R<|V 2 Z<|P ?_
 apply gl9 Z h<;>intro h
 ·refine R<|V 1 Z<|P<|ay<|bu<|aU ?_
  cases h
  exact az Z Z ⟨Z,a⟩
 refine cd<|aF<|ak<|R<|V 1 Z<|P<|ay ?_
 cases h
 exact az Z Z ⟨Z,a⟩
theorem yw {d:World} (a0:Int) {r:Option (Int×L0×List UInt64×L1×UInt64)}
  (h:F.Jr a0=some r) (f:TB [] d):Calls Tryz.prog 116 #[I a0] d (Ret fun v w=>∃u0:Value,v=u0/\zS u0 (r.map (fun c=>[I c.1]++(X.fl c.2.1++(e64.fl c.2.2.1++(e8.fl c.2.2.2.1++[v64 c.2.2.2.2])))))/\(∀c,r=some c->c.2.1.length=8/\c.2.2.1.length=8/\c.2.2.2.1.length=128)/\St [] d w (zQ u0 (r.map (fun c=>[I c.1]++(X.fl c.2.1++(e64.fl c.2.2.1++(e8.fl c.2.2.2.1++[v64 c.2.2.2.2])))))++[])):=by
 refine aB 27 Tryz.func116 Z Z Z<|have a:=St.k d;ax [(0,I a0)] Z ?_
 unfold F.Jr at h
 refine R<|V 1 Z<|gl2<|V 1 Z<|N (cb (vs:=[(0,I a0,[I a0])]) (cells:=[I a0]++(X.fl (List.replicate 8 0)++(e64.fl (List.replicate 8 0)++(e8.fl (List.replicate 128 0)++[v64 0])))) Z BP ⟨Z,trivial⟩ (by kernel_rfl)) Z<|bg (cg (cs:=[I a0]++(X.fl (List.replicate 8 0)++(e64.fl (List.replicate 8 0)++(e8.fl (List.replicate 128 0)++[v64 0])))) Z Z a) Z fun e w a=>V 1 Z<|P ?_
 refine a8 (r:=r) (fun (g:L0×List UInt64) L w=>L=[(3,O e 0)]/\g.1.length=8/\g.2.length=8/\St [] d w [Y e ([I a0]++(X.fl g.1++(e64.fl g.2++(e8.fl (List.replicate 128 0)++[v64 0]))))]) (F.Je a0) ?_ ?_
 rotate_left
 ·intro b
  refine R<|V 1 Z<|P<|aq<|R<|V 2 Z<|P ?_
  apply gl9 Z h<;>intro h
  ·exact al<|V 1 Z<|N (fK (us:=X.fl F.DT) u154 Z kv (bh (show F.DT.length=8 from Z) Z) Z (f.sha_start256.cells a.fr)) Z<|N (aL Z) Z<|N (am (k:=1) u157 Z Z gV Z) Z<|bo (dt (m:=8) (xs:=X.fl (List.replicate 8 0)) (xs':=X.fl F.DT) (i:=0) Z kv Z Z Z (Up.m (k:=1) Z Up.o Z) (bh List.length_replicate Z) (bh (show F.DT.length=8 from Z) Z) gi a) fun w a=>aE<|aF<|ak<|aG (b (F.DT,(List.replicate 8 0)) _ _ ⟨Z,(show F.DT.length=8 from Z),List.length_replicate,a⟩ h) Z
  refine R<|V 2 Z<|P ?_
  apply gl9 Z h<;>intro h
  ·exact al<|V 1 Z<|N (fK (us:=e64.fl F.DS) u143 Z i8 (bh (show F.DS.length=8 from Z) Z) Z (f.sha_start384.cells a.fr)) Z<|N (aL Z) Z<|N (am (k:=9) u157 Z Z gB Z) Z<|bo (dt (m:=8) (xs:=e64.fl (List.replicate 8 0)) (xs':=e64.fl F.DS) (i:=0) Z i8 Z Z Z (Up.m (k:=1) Z (Up.m (k:=8) (bh List.length_replicate Z) Up.o Z) Z) (bh List.length_replicate Z) (bh (show F.DS.length=8 from Z) Z) gi a) fun w a=>aE<|aF<|ak<|aG (b ((List.replicate 8 0),F.DS) _ _ ⟨Z,List.length_replicate,(show F.DS.length=8 from Z),a⟩ h) Z
  refine R<|V 2 Z<|P ?_
  apply gl9 Z h<;>intro h
  ·exact al<|V 1 Z<|N (fK (us:=e64.fl F.DW) u143 Z i8 (bh (show F.DW.length=8 from Z) Z) Z (f.sha_start512.cells a.fr)) Z<|N (aL Z) Z<|N (am (k:=9) u157 Z Z gB Z) Z<|bo (dt (m:=8) (xs:=e64.fl (List.replicate 8 0)) (xs':=e64.fl F.DW) (i:=0) Z i8 Z Z Z (Up.m (k:=1) Z (Up.m (k:=8) (bh List.length_replicate Z) Up.o Z) Z) (bh List.length_replicate Z) (bh (show F.DW.length=8 from Z) Z) gi a) fun w a=>aE<|aF<|ak<|aG (b ((List.replicate 8 0),F.DW) _ _ ⟨Z,List.length_replicate,(show F.DW.length=8 from Z),a⟩ h) Z
  refine R<|V 1 Z<|P<|ay<|bu<|aU ?_
  cases h
  exact az Z Z ⟨.pointer none,Z,Z,(fun c hc=>by cases hc),a.d [] Z Z⟩
 rintro⟨o,p⟩ L w n h
 try dsimp only at n
 obtain⟨rfl,j,l,a⟩:=n
 unfold F.Je at h
 refine R<|V 2 Z<|P<|ay ?_
 cases h
 exact az Z Z ⟨O e 0,Z,⟨_,Z⟩,(fun c hc=>by cases hc; exact⟨j,l,List.length_replicate⟩),a.d [0] Z Z⟩
theorem oH {c:World} (a0:Int) {r:Int}
  (h:F.IF a0=some r) :Calls Tryz.prog 153 #[I a0] c (Ret fun v w=>v=I r/\St [] c w []):=by
 refine aB 9 Tryz.func153 Z Z Z<|have a:=St.k c;ax [(0,I a0)] Z ?_
 unfold F.IF at h
 refine R<|V 1 Z<|gl1<|R<|V 1 Z<|P<|aq<|R<|V 2 Z<|P ?_
 apply gl9 Z h<;>intro h
 ·refine R<|V 1 Z<|P<|ay<|bu<|aU ?_
  cases h
  exact az Z Z ⟨Z,a⟩
 refine a8 (r:=r) (fun (g:Bool) L w=>L=[(6,K g)]/\St [] c w []) (F.Ji) ?_ ?_
 rotate_left
 ·intro b
  refine R<|V 2 Z<|P ?_
  apply gl9 Z h<;>intro h
  ·exact gl5<|aG (b (a0 == 2) _ _ ⟨Z,a⟩ h) Z
  exact al<|V 2 Z<|P<|aG (b (a0 == 3) _ _ ⟨Z,a⟩ h) Z
 rintro e L w d h
 try dsimp only at d
 obtain⟨rfl,a⟩:=d
 unfold F.Ji at h
 apply gl9 Z h<;>intro h
 ·refine R<|V 1 Z<|P<|ay<|bu<|aU ?_
  cases h
  exact az Z Z ⟨Z,a⟩
 refine cd<|aF<|ak<|R<|V 1 Z<|P<|ay ?_
 cases h
 exact az Z Z ⟨Z,a⟩
theorem mC {w0:World} {l:Nat} {S:L2} (n:Int) (q:L0) (g:List UInt64) (j:L1) (o:UInt64) {r:Int×L0×List UInt64×L1×UInt64}
  (h:F.HX n q g j o=some r) (a:St S w0 w0 [Y l ([I n]++(X.fl q++(e64.fl g++(e8.fl j++[v64 o]))))]) (hT:TB S w0) (c:q.length=8) (y:g.length=8) (x:j.length=128):Calls Tryz.prog 172 #[O l 0] w0 (Ret fun v w=>v=.tuple #[]/\r.2.1.length=8/\r.2.2.1.length=8/\r.2.2.2.1.length=128/\St S w0 w [Y l ([I r.1]++(X.fl r.2.1++(e64.fl r.2.2.1++(e8.fl r.2.2.2.1++[v64 r.2.2.2.2]))))]):=by
 refine aB 221 Tryz.func172 Z Z Z<|ax [(0,O l 0)] Z ?_
 unfold F.HX at h
 refine R<|bg (bb (cs:=X.fl (List.replicate 64 0)) AD (by kernel_rfl) a) Z fun D w a=>gl1<|R<|V 1 Z<|P<|aq<|ax [(0,O l 0),(2,O D 0),(21,I 0)] Z ?_
 refine aT (F.IS j q n g o) (fun (s:Int×L0) L w=>L=[(0,O l 0),(2,O D 0),(21,I s.1)]/\s.2.length=64/\St S w0 w [Y l ([I n]++(X.fl q++(e64.fl g++(e8.fl j++[v64 o])))),Y D (X.fl s.2)]) ?_ (0,(List.replicate 64 0)) ⟨Z,List.length_replicate,(a.d [1,0] Z Z)⟩ h
 rintro cr ⟨ce,cf⟩ L w cD hI cg h bJ
 try dsimp only at hI
 obtain⟨rfl,aS,a⟩:=hI
 unfold F.IS at h
 refine R<|V 1 Z<|gl1 ?_
 apply gl9 Z h<;>intro h
 ·refine gl5<|aw<|aq<|R<|V 2 Z<|gl2<|V 1 Z<|N (aL Z) Z<|N (am (k:=17) u157 Z Z wB Z) Z<|V 1 Z<|N (aj Z Z (el _ 4 ce)) Z<|J h fun ct z h=>N (CV (e:=e8) u155 sz5 Z Z Z x z) Z<|V 1 Z<|P<|dk (fun w'=>St S w0 w' [Y l ([I n]++(X.fl q++(e64.fl g++(e8.fl j++[v64 o])))),Y D (X.fl cf)]) (fun i=>!([24].contains i)) bQ (fun _ _ _ A=>A.2) (fun _ _ A=>A) (by kernel_rfl)<|have a:=a.drew;show lxE _ _ _ _ _ _ _ [0,1,2,3,4,5,6,7,8,9,10,11,12,13,14,15,16,17,18,19,20,21,22,23,24] _ _ from ao 2 Z a<|J h fun ad a2 h=>H a Z Z (fun w b=>bk u24 ti5 Z Z ((b.bxroA 0 Z x (Up.m (k:=1) Z (Up.m (k:=8) (bh c Z) (Up.m (k:=8) (bh y Z) Up.o Z) Z) Z)).g_sll z) a2) Z<|H a Z Z (fun w b=>a9 Tryz.underlying5 Z Z ((b.bxroA 0 Z x (Up.m (k:=1) Z (Up.m (k:=8) (bh c Z) (Up.m (k:=8) (bh y Z) Up.o Z) Z) Z)).g_sll z) a2 Z) Z<|H a Z Z (fun w b=>aD Z (fv Tryz.underlying5 u38 ad)) Z<|H a Z Z (fun w b=>aj Z Z (ei _ ad.toUInt32 24)) Z<|ao 1 Z a<|J h fun ae a3 h=>H a Z Z (fun w b=>bk u24 ti5 Z Z ((b.bxroA 0 Z x (Up.m (k:=1) Z (Up.m (k:=8) (bh c Z) (Up.m (k:=8) (bh y Z) Up.o Z) Z) Z)).g_sll z) a3) Z ?_
  refine H a Z Z (fun w b=>a9 Tryz.underlying5 Z Z ((b.bxroA 0 Z x (Up.m (k:=1) Z (Up.m (k:=8) (bh c Z) (Up.m (k:=8) (bh y Z) Up.o Z) Z) Z)).g_sll z) a3 Z) Z<|H a Z Z (fun w b=>aD Z (fv Tryz.underlying5 u38 ae)) Z<|H a Z Z (fun w b=>aj Z Z (ei _ ae.toUInt32 16)) Z<|H a Z Z (fun w b=>aj Z Z (eB _ (bP ad.toUInt32 24) (bP ae.toUInt32 16))) Z<|ao 1 Z a<|J h fun aA a4 h=>H a Z Z (fun w b=>bk u24 ti5 Z Z ((b.bxroA 0 Z x (Up.m (k:=1) Z (Up.m (k:=8) (bh c Z) (Up.m (k:=8) (bh y Z) Up.o Z) Z) Z)).g_sll z) a4) Z<|H a Z Z (fun w b=>a9 Tryz.underlying5 Z Z ((b.bxroA 0 Z x (Up.m (k:=1) Z (Up.m (k:=8) (bh c Z) (Up.m (k:=8) (bh y Z) Up.o Z) Z) Z)).g_sll z) a4 Z) Z<|H a Z Z (fun w b=>aD Z (fv Tryz.underlying5 u38 aA)) Z<|H a Z Z (fun w b=>aj Z Z (ei _ aA.toUInt32 8)) Z<|H a Z Z (fun w b=>aj Z Z (eB _ ((bP ad.toUInt32 24) ||| (bP ae.toUInt32 16)) (bP aA.toUInt32 8))) Z<|ao 1 Z a<|J h fun aU a5 h=>H a Z Z (fun w b=>bk u24 ti5 Z Z ((b.bxroA 0 Z x (Up.m (k:=1) Z (Up.m (k:=8) (bh c Z) (Up.m (k:=8) (bh y Z) Up.o Z) Z) Z)).g_sll z) a5) Z ?_
  refine H a Z Z (fun w b=>a9 Tryz.underlying5 Z Z ((b.bxroA 0 Z x (Up.m (k:=1) Z (Up.m (k:=8) (bh c Z) (Up.m (k:=8) (bh y Z) Up.o Z) Z) Z)).g_sll z) a5 Z) Z<|H a Z Z (fun w b=>aD Z (fv Tryz.underlying5 u38 aU)) Z<|H a Z Z (fun w b=>aj Z Z (eB _ (((bP ad.toUInt32 24) ||| (bP ae.toUInt32 16)) ||| (bP aA.toUInt32 8)) aU.toUInt32)) Z<|J h fun cu a6 h=>H a Z Z (fun w b=>a7 u165 cE Z Z (aW a6 aS)) Z<|f9 a Z Z (dt (m:=1) Z cE Z Z Z (Up.elt (t':=((((bP ad.toUInt32 24) ||| (bP ae.toUInt32 16)) ||| (bP aA.toUInt32 8)) ||| aU.toUInt32)) Up.last a6 Z Z) Z Z (eD Z) a (i:=1)) fun w a=>aZ h fun ch a8 h=>?_
  rw[a8]at a
  exact bp trivial<|aF<|ak<|al<|V 2 Z<|aE<|bd (bc (cg (wI (ce+1),ch) _ _ ⟨Z,(by rw[<-a8,List.length_set]; exact aS),a⟩ (aK h bJ)) Z)
 refine aQ<|av<|av<|have h:=aI h bJ;aR<|ak<|aw<|R<|V 1 Z<|P<|aq<|ax [(0,O l 0),(2,O D 0),(5,I 16)] Z ?_
 refine aT (F.Ft q n g j o) (fun (s:Int×L0) L w=>L=[(0,O l 0),(2,O D 0),(5,I s.1)]/\s.2.length=64/\St S w0 w [Y l ([I n]++(X.fl q++(e64.fl g++(e8.fl j++[v64 o])))),Y D (X.fl s.2)]) ?_ (16,cf) ⟨Z,aS,a⟩ h
 rintro cv ⟨cj,ah⟩ L w cw hI bY h be
 try dsimp only at hI
 obtain⟨rfl,G,a⟩:=hI
 unfold F.Ft at h
 refine aw<|R<|V 2 Z<|P ?_
 apply gl9 Z h<;>intro h
 ·refine gl5<|aw<|aq<|aw<|aX (fun w'=>St S w0 w' [Y l ([I n]++(X.fl q++(e64.fl g++(e8.fl j++[v64 o])))),Y D (X.fl ah)]) (fun _=>true) bQ (fun _ _ _ A=>A.2) (fun _ _ A=>A) (by kernel_rfl)<|have a:=a.drew;show lxE _ _ _ _ _ _ _ [0,1,2,3,4,5,6,7,8,9] _ _ from ao 2 Z a<|J h fun ac bi h=>H a Z Z (fun w b=>a7 u165 cE Z Z (aW bi G)) Z<|H a Z Z (fun w b=>au u38 Z Z (b.r 1 Z (Up.elr Up.last bi Z))) Z<|ao 2 Z a<|J h fun an bj h=>H a Z Z (fun w b=>a7 u165 cE Z Z (aW bj G)) Z<|H a Z Z (fun w b=>au u38 Z Z (b.r 1 Z (Up.elr Up.last bj Z))) Z<|ao 2 Z a<|bp a<|ak<|dk (fun w'=>St S w0 w' [Y l ([I n]++(X.fl q++(e64.fl g++(e8.fl j++[v64 o])))),Y D (X.fl ah)]) (fun i=>!([11,13,20,22,29].contains i)) bQ (fun _ _ _ A=>A.2) (fun _ _ A=>A) (by kernel_rfl)<|have a:=a.drew;show lxE _ _ _ _ _ _ _ [0,1,2,3,4,5,6,7,8,9,10,11,12,13,14,15,16,17,18,19,20,21,22,23,24,25,26,27,28,29] _ _ from ao 3 Z a<|J h fun aM bl h=>H a Z Z (fun w b=>a7 u165 cE Z Z (aW bl G)) Z<|H a Z Z (fun w b=>au u38 Z Z (b.r 1 Z (Up.elr Up.last bl Z))) Z<|ao 2 Z a ?_
  refine J h fun aN bm h=>H a Z Z (fun w b=>a7 u165 cE Z Z (aW bm G)) Z<|H a Z Z (fun w b=>au u38 Z Z (b.r 1 Z (Up.elr Up.last bm Z))) Z<|H a Z Z (fun w b=>aj Z Z (cZ _ aM aN)) Z<|ao 1 Z a<|J h fun aC bZ h=>aY a Z Z (by kernel_rfl) Z (ci ac (-7) bZ ) Z ?_
  rintro _ w ⟨rfl,E⟩
  have a:=a.e E
  refine ao 1 Z a<|J h fun aG b0 h=>aY a Z Z (by kernel_rfl) Z (ci ac (-18) b0 ) Z ?_
  rintro _ w ⟨rfl,E⟩
  have a:=a.e E
  refine H a Z Z (fun w b=>aj Z Z (di _ aC aG)) Z<|ao 1 Z a<|H a Z Z (fun w b=>aj Z Z (cO _ ac 3)) Z<|H a Z Z (fun w b=>aj Z Z (di _ (aC ^^^ aG) (bA ac 3))) Z<|H a Z Z (fun w b=>aj Z Z (cZ _ (aM+aN) ((aC ^^^ aG) ^^^ (bA ac 3)))) Z<|ao 1 Z a<|J h fun aO b1 h=>aY a Z Z (by kernel_rfl) Z (ci an (-17) b1 ) Z ?_
  rintro _ w ⟨rfl,E⟩
  have a:=a.e E
  refine ao 1 Z a<|J h fun aP b2 h=>aY a Z Z (by kernel_rfl) Z (ci an (-19) b2 ) Z ?_
  rintro _ w ⟨rfl,E⟩
  have a:=a.e E
  refine H a Z Z (fun w b=>aj Z Z (di _ aO aP)) Z<|ao 1 Z a<|H a Z Z (fun w b=>aj Z Z (cO _ an 10)) Z<|H a Z Z (fun w b=>aj Z Z (di _ (aO ^^^ aP) (bA an 10))) Z<|H a Z Z (fun w b=>aj Z Z (cZ _ ((aM+aN)+((aC ^^^ aG) ^^^ (bA ac 3))) ((aO ^^^ aP) ^^^ (bA an 10)))) Z<|J h fun cx bn h=>H a Z Z (fun w b=>a7 u165 cE Z Z (aW bn G)) Z<|f9 a Z Z (dt (m:=1) Z cE Z Z Z (Up.elt (t':=(((aM+aN)+((aC ^^^ aG) ^^^ (bA ac 3)))+((aO ^^^ aP) ^^^ (bA an 10)))) Up.last bn Z Z) Z Z (eD Z) a (i:=1)) fun w a=>aZ h fun ck bo h=>?_
  rw[bo]at a
  exact bp trivial<|aF<|ak<|al<|V 3 Z<|aE<|bd (bc (bY (wI (cj+1),ck) _ _ ⟨Z,(by rw[<-bo,List.length_set]; exact G),a⟩ (aK h be)) Z)
 refine aQ<|av<|av<|have h:=aI h be;aR<|ak<|aw<|aX (fun w'=>St S w0 w' [Y l ([I n]++(X.fl q++(e64.fl g++(e8.fl j++[v64 o])))),Y D (X.fl ah)]) (fun _=>true) bQ (fun _ _ _ A=>A.2) (fun _ _ A=>A) (by kernel_rfl)<|have a:=a.drew;show lxE _ _ _ _ _ _ _ [0,1,2,3,4,5,6,7,8,9,10,11,12,13,14,15,16,17,18,19,20,21,22,23,24,25,26,27,28,29,30,31,32,33,34,35,36,37,38,39,40,41,42,43,44,45,46,47] _ _ from ao 1 Z a<|H a Z Z (fun w b=>aL Z) Z<|H a Z Z (fun w b=>am (k:=1) u157 Z Z gV Z) Z<|J h fun bK bq h=>H a Z Z (fun w b=>a7 u154 cE Z Z (aW bq c)) Z<|H a Z Z (fun w b=>au u38 Z Z (b.r 0 Z (Up.elr (Up.m (k:=1) Z Up.o Z) bq Z))) Z<|ao 1 Z a<|H a Z Z (fun w b=>aL Z) Z<|H a Z Z (fun w b=>am (k:=1) u157 Z Z gV Z) Z<|J h fun bL br h=>H a Z Z (fun w b=>a7 u154 cE Z Z (aW br c)) Z<|H a Z Z (fun w b=>au u38 Z Z (b.r 0 Z (Up.elr (Up.m (k:=1) Z Up.o Z) br Z))) Z<|ao 1 Z a<|H a Z Z (fun w b=>aL Z) Z<|H a Z Z (fun w b=>am (k:=1) u157 Z Z gV Z) Z<|J h fun bM bs h=>H a Z Z (fun w b=>a7 u154 cE Z Z (aW bs c)) Z ?_
 refine H a Z Z (fun w b=>au u38 Z Z (b.r 0 Z (Up.elr (Up.m (k:=1) Z Up.o Z) bs Z))) Z<|ao 1 Z a<|H a Z Z (fun w b=>aL Z) Z<|H a Z Z (fun w b=>am (k:=1) u157 Z Z gV Z) Z<|J h fun bN bt h=>H a Z Z (fun w b=>a7 u154 cE Z Z (aW bt c)) Z<|H a Z Z (fun w b=>au u38 Z Z (b.r 0 Z (Up.elr (Up.m (k:=1) Z Up.o Z) bt Z))) Z<|ao 1 Z a<|H a Z Z (fun w b=>aL Z) Z<|H a Z Z (fun w b=>am (k:=1) u157 Z Z gV Z) Z<|J h fun bO bu h=>H a Z Z (fun w b=>a7 u154 cE Z Z (aW bu c)) Z<|H a Z Z (fun w b=>au u38 Z Z (b.r 0 Z (Up.elr (Up.m (k:=1) Z Up.o Z) bu Z))) Z<|ao 1 Z a<|H a Z Z (fun w b=>aL Z) Z<|H a Z Z (fun w b=>am (k:=1) u157 Z Z gV Z) Z<|J h fun bR bv h=>H a Z Z (fun w b=>a7 u154 cE Z Z (aW bv c)) Z<|H a Z Z (fun w b=>au u38 Z Z (b.r 0 Z (Up.elr (Up.m (k:=1) Z Up.o Z) bv Z))) Z<|ao 1 Z a<|H a Z Z (fun w b=>aL Z) Z<|H a Z Z (fun w b=>am (k:=1) u157 Z Z gV Z) Z<|J h fun bS bw h=>?_
 refine H a Z Z (fun w b=>a7 u154 cE Z Z (aW bw c)) Z<|H a Z Z (fun w b=>au u38 Z Z (b.r 0 Z (Up.elr (Up.m (k:=1) Z Up.o Z) bw Z))) Z<|ao 1 Z a<|H a Z Z (fun w b=>aL Z) Z<|H a Z Z (fun w b=>am (k:=1) u157 Z Z gV Z) Z<|J h fun bT bz h=>H a Z Z (fun w b=>a7 u154 cE Z Z (aW bz c)) Z<|H a Z Z (fun w b=>au u38 Z Z (b.r 0 Z (Up.elr (Up.m (k:=1) Z Up.o Z) bz Z))) Z<|ao 8 Z a<|bp a<|ak<|aw<|R<|V 1 Z<|P<|aq<|ax [(0,O l 0),(2,O D 0),(8,v32 bK),(9,v32 bL),(10,v32 bM),(11,v32 bN),(12,v32 bO),(13,v32 bR),(14,v32 bS),(15,v32 bT),(136,I 0)] Z ?_
 refine aT (F.Hu q ah n g j o) (fun (s:UInt32×UInt32×UInt32×UInt32×UInt32×UInt32×UInt32×UInt32×Int) L w=>L=[(0,O l 0),(2,O D 0),(8,v32 s.1),(9,v32 s.2.1),(10,v32 s.2.2.1),(11,v32 s.2.2.2.1),(12,v32 s.2.2.2.2.1),(13,v32 s.2.2.2.2.2.1),(14,v32 s.2.2.2.2.2.2.1),(15,v32 s.2.2.2.2.2.2.2.1),(136,I s.2.2.2.2.2.2.2.2)]/\St S w0 w [Y l ([I n]++(X.fl q++(e64.fl g++(e8.fl j++[v64 o])))),Y D (X.fl ah)]) ?_ (bK,bL,bM,bN,bO,bR,bS,bT,0) ⟨Z,a⟩ h
 rintro cy ⟨d,t,B,T,p,u,f,C,cl⟩ L w cz hI b3 h bB
 try dsimp only at hI
 obtain⟨rfl,a⟩:=hI
 unfold F.Hu at h
 refine R<|V 1 Z<|gl1 ?_
 apply gl9 Z h<;>intro h
 ·refine gl5<|aw<|aq<|R<|V 2 Z<|gl1<|aX (fun w'=>St S w0 w' [Y l ([I n]++(X.fl q++(e64.fl g++(e8.fl j++[v64 o])))),Y D (X.fl ah)]) (fun i=>!([2,4,7].contains i)) bQ (fun _ _ _ A=>A.2) (fun _ _ A=>A) (by kernel_rfl)<|have a:=a.drew;show lxE _ _ _ _ _ _ _ [0,1,2,3,4,5,6,7,8,9,10,11,12,13,14,15,16,17,18,19,20,21,22,23,24,25,26] _ _ from ao 2 Z a<|J h fun ap b4 h=>aY a Z Z (by kernel_rfl) Z (ci p (-6) b4 ) Z ?_
  rintro _ w ⟨rfl,E⟩
  have a:=a.e E
  refine ao 1 Z a<|J h fun ar b5 h=>aY a Z Z (by kernel_rfl) Z (ci p (-11) b5 ) Z ?_
  rintro _ w ⟨rfl,E⟩
  have a:=a.e E
  refine H a Z Z (fun w b=>aj Z Z (di _ ap ar)) Z<|ao 1 Z a<|J h fun aH b6 h=>aY a Z Z (by kernel_rfl) Z (ci p (-25) b6 ) Z ?_
  rintro _ w ⟨rfl,E⟩
  have a:=a.e E
  refine H a Z Z (fun w b=>aj Z Z (di _ (ap ^^^ ar) aH)) Z<|H a Z Z (fun w b=>aj Z Z (cZ _ C ((ap ^^^ ar) ^^^ aH))) Z<|ao 4 Z a<|H a Z Z (fun w b=>aj Z Z (di _ u f)) Z<|H a Z Z (fun w b=>aj Z Z (eO _ p (u ^^^ f))) Z<|H a Z Z (fun w b=>aj Z Z (di _ f (p &&& (u ^^^ f)))) Z<|H a Z Z (fun w b=>aj Z Z (cZ _ (C+((ap ^^^ ar) ^^^ aH)) (f ^^^ (p &&& (u ^^^ f))))) Z<|ao 1 Z a<|J h fun bU bC h=>H a Z Z (fun w b=>a7 u165 cE Z Z (aW bC (show F.EQ.length=64 from Z))) Z<|H a Z Z (fun w b=>au u38 Z Z (hT.sha_k256.cell b.fr bC Z)) Z<|H a Z Z (fun w b=>aj Z Z (cZ _ ((C+((ap ^^^ ar) ^^^ aH))+(f ^^^ (p &&& (u ^^^ f)))) bU)) Z<|ao 1 Z a<|J h fun cm bD h=>H a Z Z (fun w b=>a7 u165 cE Z Z (aW bD G)) Z<|H a Z Z (fun w b=>au u38 Z Z (b.r 1 Z (Up.elr Up.last bD Z))) Z<|H a Z Z (fun w b=>aj Z Z (cZ _ (((C+((ap ^^^ ar) ^^^ aH))+(f ^^^ (p &&& (u ^^^ f))))+bU) cm)) Z<|aZ h fun aJ b7 h=>H a Z Z (fun w b=>ba (v:=v32 aJ) (by rw[<-b7]; rfl)) Z<|bp a<|ak<|R<|V 1 Z ?_
  exact J h fun aV b8 h=>bf a Z (ci d (-2) b8 ) Z fun w a=>V 1 Z<|J h fun a0 b9 h=>bf a Z (ci d (-13) b9 ) Z fun w a=>N (aj Z Z (di _ aV a0)) Z<|V 1 Z<|J h fun bV ca h=>bf a Z (ci d (-22) ca ) Z fun w a=>N (aj Z Z (di _ (aV ^^^ a0) bV)) Z<|V 2 Z<|N (aj Z Z (eO _ d t)) Z<|V 3 Z<|N (aj Z Z (eB _ d t)) Z<|N (aj Z Z (eO _ B (d ||| t))) Z<|N (aj Z Z (eB _ (d &&& t) (B &&& (d ||| t)))) Z<|N (aj Z Z (cZ _ ((aV ^^^ a0) ^^^ bV) ((d &&& t) ||| (B &&& (d ||| t))))) Z<|aZ h fun a1 cc h=>N (ba (v:=v32 a1) (by rw[<-cc]; rfl)) Z<|P<|al<|V 5 Z<|N (aj Z Z (cZ _ T aJ)) Z<|V 5 Z<|N (aj Z Z (cZ _ aJ a1)) Z<|V 8 Z<|aE<|aF<|ak<|al<|V 2 Z<|aE<|bd (bc (b3 (aJ+a1,d,t,B,T+aJ,p,u,f,wI (cl+1)) _ _ ⟨Z,a⟩ (aK h bB)) Z)
 refine aQ<|av<|av<|have h:=aI h bB;aR<|ak<|R<|V 8 Z<|N (cb (vs:=[(0,v32 d,[v32 d]),(1,v32 t,[v32 t]),(2,v32 B,[v32 B]),(3,v32 T,[v32 T]),(4,v32 p,[v32 p]),(5,v32 u,[v32 u]),(6,v32 f,[v32 f]),(7,v32 C,[v32 C])]) (cells:=[v32 d,v32 t,v32 B,v32 T,v32 p,v32 u,v32 f,v32 C]) Z x6 ⟨Z,Z,Z,Z,Z,Z,Z,Z,trivial⟩ (by kernel_rfl)) Z<|V 1 Z<|P<|aq<|ax [(0,O l 0),(204,.agg #[v32 d,v32 t,v32 B,v32 T,v32 p,v32 u,v32 f,v32 C]),(205,I 0)] Z ?_
 refine aT (F.GJ n g j o d t B T p u f C) (fun (s:Int×L0) L w=>L=[(0,O l 0),(204,.agg #[v32 d,v32 t,v32 B,v32 T,v32 p,v32 u,v32 f,v32 C]),(205,I s.1)]/\s.2.length=8/\St S w0 w [Y l ([I n]++(X.fl s.2++(e64.fl g++(e8.fl j++[v64 o]))))]) ?_ (0,q) ⟨Z,c,(a.d [0] Z Z)⟩ h
 rintro cA ⟨cn,co⟩ L w cB hI cd h bE
 try dsimp only at hI
 obtain⟨rfl,ay,a⟩:=hI
 unfold F.GJ at h
 refine R<|V 1 Z<|gl1 ?_
 apply gl9 Z h<;>intro h
 ·refine gl5<|aw<|aq<|R<|V 1 Z<|J h fun bW bF h=>N (mb (cs:=(X.fl ([d,t,B,T,p,u,f,C]:L0)).toArray) u154 u38 Z cE Z Z (aW bF Z) (om bF Z)) Z<|V 2 Z<|P<|dk (fun w'=>St S w0 w' [Y l ([I n]++(X.fl co++(e64.fl g++(e8.fl j++[v64 o]))))]) (fun i=>!([11].contains i)) bQ (fun _ _ _ A=>A.2) (fun _ _ A=>A) (by kernel_rfl)<|have a:=a.drew;show lxE _ _ _ _ _ _ _ [0,1,2,3,4,5,6,7,8,9,10,11] _ _ from ao 2 Z a<|H a Z Z (fun w b=>aL Z) Z<|H a Z Z (fun w b=>am (k:=1) u157 Z Z gV Z) Z<|J h fun bX bG h=>H a Z Z (fun w b=>a7 u154 cE Z Z (aW bG ay)) Z<|H a Z Z (fun w b=>au u38 Z Z (b.r 0 Z (Up.elr (Up.m (k:=1) Z Up.o Z) bG Z))) Z<|ao 1 Z a<|H a Z Z (fun w b=>aj Z Z (cZ _ bX bW)) Z<|H a Z Z (fun w b=>aL Z) Z<|H a Z Z (fun w b=>am (k:=1) u157 Z Z gV Z) Z<|J h fun cC bH h=>H a Z Z (fun w b=>a7 u154 cE Z Z (aW bH ay)) Z<|f9 a Z Z (dt (m:=1) Z cE Z Z Z (Up.elt (t':=(bX+bW)) (Up.m (k:=1) Z Up.o Z) bH Z Z) Z Z (eD Z) a (i:=0)) ?_
  intro w a
  obtain⟨cp,bI,h⟩:=eK h
  rw[bI]at a
  exact bp trivial<|aF<|ak<|al<|V 2 Z<|aE<|bd (bc (cd (wI (cn+1),cp) _ _ ⟨Z,(by rw[<-bI,List.length_set]; exact ay),a⟩ (aK h bE)) Z)
 refine aQ<|av<|av<|have h:=aI h bE;aR ?_
 cases h
 exact ip Z ⟨Z,ay,y,x,a.d [0] Z Z⟩
theorem mA {T:World} {c:Nat} {S:L2} (n:Int) (j:L0) (t:List UInt64) (l:L1) (o:UInt64) {r:Int×L0×List UInt64×L1×UInt64}
  (h:F.IU n j t l o=some r) (a:St S T T [Y c ([I n]++(X.fl j++(e64.fl t++(e8.fl l++[v64 o]))))]) (hT:TB S T) (g:j.length=8) (q:t.length=8) (ac:l.length=128):Calls Tryz.prog 173 #[O c 0] T (Ret fun v w=>v=.tuple #[]/\r.2.1.length=8/\r.2.2.1.length=8/\r.2.2.2.1.length=128/\St S T w [Y c ([I r.1]++(X.fl r.2.1++(e64.fl r.2.2.1++(e8.fl r.2.2.2.1++[v64 r.2.2.2.2]))))]):=by
 refine aB 216 Tryz.func173 Z Z Z<|ax [(0,O c 0)] Z ?_
 unfold F.IU at h
 refine R<|bg (bb (cs:=e64.fl (List.replicate 80 0)) At (by kernel_rfl) a) Z fun y w a=>gl1<|R<|V 1 Z<|P<|aq<|ax [(0,O c 0),(2,O y 0),(22,I 0)] Z ?_
 refine aT (F.Ii l t n j o) (fun (s:Int×List UInt64) L w=>L=[(0,O c 0),(2,O y 0),(22,I s.1)]/\s.2.length=80/\St S T w [Y c ([I n]++(X.fl j++(e64.fl t++(e8.fl l++[v64 o])))),Y y (e64.fl s.2)]) ?_ (0,(List.replicate 80 0)) ⟨Z,List.length_replicate,(a.d [1,0] Z Z)⟩ h
 rintro cz ⟨G,cl⟩ L w cL hI cm h bL
 try dsimp only at hI
 obtain⟨rfl,bM,a⟩:=hI
 unfold F.Ii at h
 refine R<|V 1 Z<|gl1 ?_
 apply gl9 Z h<;>intro h
 ·refine gl5<|aw<|aq<|R<|V 2 Z<|gl2<|V 1 Z<|N (aL Z) Z<|N (am (k:=17) u157 Z Z wB Z) Z<|V 1 Z<|N (aj Z Z (el _ 8 G)) Z<|V 1 Z<|N (aj Z Z (el _ 8 G)) Z<|V 1 Z<|J h fun aU ar h=>N (CC (e:=e8) u155 sz5 Z Z Z Z ac ar) Z<|N (aC u24 Z ((a.bxroA 0 Z ac (Up.m (k:=1) Z (Up.m (k:=8) (bh g Z) (Up.m (k:=8) (bh q Z) Up.o Z) Z) Z)).g_sl ar)) Z<|V 1 Z<|P<|aq<|ax [(0,O c 0),(2,O y 0),(3,I G),(22,I G),(33,slV (.slice (some ⟨c,17,none⟩) 128 128) e8.sz ((wI (8*G):Int).toNat) ((wI ((wI (8*G))+8):Int).toNat)),(34,I (aU.length:Int)),(35,I 0)] Z ?_
  refine aT (F.GM G aU) (fun (s:Int×List UInt64) L w=>L=[(0,O c 0),(2,O y 0),(3,I G),(22,I G),(33,slV (.slice (some ⟨c,17,none⟩) 128 128) e8.sz ((wI (8*G):Int).toNat) ((wI ((wI (8*G))+8):Int).toNat)),(34,I (aU.length:Int)),(35,I s.1)]/\s.2.length=80/\St S T w [Y c ([I n]++(X.fl j++(e64.fl t++(e8.fl l++[v64 o])))),Y y (e64.fl s.2)]) ?_ (0,cl) ⟨Z,bM,a⟩ h
  rintro cA ⟨cn,co⟩ L w cB hI b1 h a4
  try dsimp only at hI
  obtain⟨rfl,ay,a⟩:=hI
  unfold F.GM at h
  refine R<|V 1 Z<|gl1 ?_
  apply gl9 Z h<;>intro h
  ·refine gl5<|aw<|aq<|R<|J h fun aV a5 h=>N (bk u24 ti5 Z Z ((a.bxroA 0 Z ac (Up.m (k:=1) Z (Up.m (k:=8) (bh g Z) (Up.m (k:=8) (bh q Z) Up.o Z) Z) Z)).g_sl ar) a5) Z<|N (a9 Tryz.underlying5 Z Z ((a.bxroA 0 Z ac (Up.m (k:=1) Z (Up.m (k:=8) (bh g Z) (Up.m (k:=8) (bh q Z) Up.o Z) Z) Z)).g_sl ar) a5 Z) Z<|V 1 Z<|P<|al<|V 2 Z<|J h fun a0 a6 h=>N (a7 u167 ce Z Z (aW a6 ay)) Z<|N (au u119 Z Z (a.r 1 Z (Up.elr Up.last a6 Z))) Z<|N (aj Z Z (du _ a0 8)) Z<|V 1 Z<|N (aD Z (qI Tryz.underlying5 u119 aV)) Z<|N (aj Z Z (fo _ (bH a0 8) aV.toUInt64)) Z<|J h fun cC a8 h=>N (a7 u167 ce Z Z (aW a8 ay)) Z<|bo (dt (m:=1) Z ce Z Z Z (Up.elt (t':=((bH a0 8) ||| aV.toUInt64)) Up.last a8 Z Z) Z Z (eD Z) a (i:=1)) fun w a=>aZ h fun cp be h=>?_
   rw[be]at a
   exact aE<|aF<|ak<|al<|V 2 Z<|aE<|bd (bc (b1 (wI (cn+1),cp) _ _ ⟨Z,(by rw[<-be,List.length_set]; exact ay),a⟩ (aK h a4)) Z)
  exact aQ<|av<|av<|have h:=aI h a4;aR<|aF<|ak<|al<|V 2 Z<|aE<|bd (bc (cm (wI (G+1),co) _ _ ⟨Z,ay,a⟩ (aK h bL)) Z)
 refine aQ<|av<|av<|have h:=aI h bL;aR<|ak<|aw<|R<|V 1 Z<|P<|aq<|ax [(0,O c 0),(2,O y 0),(6,I 16)] Z ?_
 refine aT (F.Fa t n j l o) (fun (s:Int×List UInt64) L w=>L=[(0,O c 0),(2,O y 0),(6,I s.1)]/\s.2.length=80/\St S T w [Y c ([I n]++(X.fl j++(e64.fl t++(e8.fl l++[v64 o])))),Y y (e64.fl s.2)]) ?_ (16,cl) ⟨Z,bM,a⟩ h
 rintro cD ⟨cq,ae⟩ L w cE hI b2 h bi
 try dsimp only at hI
 obtain⟨rfl,C,a⟩:=hI
 unfold F.Fa at h
 refine aw<|R<|V 2 Z<|P ?_
 apply gl9 Z h<;>intro h
 ·refine gl5<|aw<|aq<|aw<|aX (fun w'=>St S T w' [Y c ([I n]++(X.fl j++(e64.fl t++(e8.fl l++[v64 o])))),Y y (e64.fl ae)]) (fun _=>true) bQ (fun _ _ _ D=>D.2) (fun _ _ D=>D) (by kernel_rfl)<|have a:=a.drew;show lxE _ _ _ _ _ _ _ [0,1,2,3,4,5,6,7,8,9] _ _ from ao 2 Z a<|J h fun ab bj h=>H a Z Z (fun w b=>a7 u167 ce Z Z (aW bj C)) Z<|H a Z Z (fun w b=>au u119 Z Z (b.r 1 Z (Up.elr Up.last bj Z))) Z<|ao 2 Z a<|J h fun ah bl h=>H a Z Z (fun w b=>a7 u167 ce Z Z (aW bl C)) Z<|H a Z Z (fun w b=>au u119 Z Z (b.r 1 Z (Up.elr Up.last bl Z))) Z<|ao 2 Z a<|bp a<|ak<|dk (fun w'=>St S T w' [Y c ([I n]++(X.fl j++(e64.fl t++(e8.fl l++[v64 o])))),Y y (e64.fl ae)]) (fun i=>!([11,13,20,22,29].contains i)) bQ (fun _ _ _ D=>D.2) (fun _ _ D=>D) (by kernel_rfl)<|have a:=a.drew;show lxE _ _ _ _ _ _ _ [0,1,2,3,4,5,6,7,8,9,10,11,12,13,14,15,16,17,18,19,20,21,22,23,24,25,26,27,28,29] _ _ from ao 3 Z a<|J h fun aM bm h=>H a Z Z (fun w b=>a7 u167 ce Z Z (aW bm C)) Z<|H a Z Z (fun w b=>au u119 Z Z (b.r 1 Z (Up.elr Up.last bm Z))) Z<|ao 2 Z a ?_
  refine J h fun aN bn h=>H a Z Z (fun w b=>a7 u167 ce Z Z (aW bn C)) Z<|H a Z Z (fun w b=>au u119 Z Z (b.r 1 Z (Up.elr Up.last bn Z))) Z<|H a Z Z (fun w b=>aj Z Z (bT _ aM aN)) Z<|ao 1 Z a<|J h fun aA b3 h=>aY a Z Z (by kernel_rfl) Z (cj ab (-1) b3 ) Z ?_
  rintro _ w ⟨rfl,B⟩
  have a:=a.e B
  refine ao 1 Z a<|J h fun aG b4 h=>aY a Z Z (by kernel_rfl) Z (cj ab (-8) b4 ) Z ?_
  rintro _ w ⟨rfl,B⟩
  have a:=a.e B
  refine H a Z Z (fun w b=>aj Z Z (dr _ aA aG)) Z<|ao 1 Z a<|H a Z Z (fun w b=>aj Z Z (cf _ ab 7)) Z<|H a Z Z (fun w b=>aj Z Z (dr _ (aA ^^^ aG) (aO ab 7))) Z<|H a Z Z (fun w b=>aj Z Z (bT _ (aM+aN) ((aA ^^^ aG) ^^^ (aO ab 7)))) Z<|ao 1 Z a<|J h fun aP b5 h=>aY a Z Z (by kernel_rfl) Z (cj ah (-19) b5 ) Z ?_
  rintro _ w ⟨rfl,B⟩
  have a:=a.e B
  refine ao 1 Z a<|J h fun aS b6 h=>aY a Z Z (by kernel_rfl) Z (cj ah (-61) b6 ) Z ?_
  rintro _ w ⟨rfl,B⟩
  have a:=a.e B
  refine H a Z Z (fun w b=>aj Z Z (dr _ aP aS)) Z<|ao 1 Z a<|H a Z Z (fun w b=>aj Z Z (cf _ ah 6)) Z<|H a Z Z (fun w b=>aj Z Z (dr _ (aP ^^^ aS) (aO ah 6))) Z<|H a Z Z (fun w b=>aj Z Z (bT _ ((aM+aN)+((aA ^^^ aG) ^^^ (aO ab 7))) ((aP ^^^ aS) ^^^ (aO ah 6)))) Z<|J h fun cF bq h=>H a Z Z (fun w b=>a7 u167 ce Z Z (aW bq C)) Z<|f9 a Z Z (dt (m:=1) Z ce Z Z Z (Up.elt (t':=(((aM+aN)+((aA ^^^ aG) ^^^ (aO ab 7)))+((aP ^^^ aS) ^^^ (aO ah 6)))) Up.last bq Z Z) Z Z (eD Z) a (i:=1)) fun w a=>aZ h fun cr br h=>?_
  rw[br]at a
  exact bp trivial<|aF<|ak<|al<|V 3 Z<|aE<|bd (bc (b2 (wI (cq+1),cr) _ _ ⟨Z,(by rw[<-br,List.length_set]; exact C),a⟩ (aK h bi)) Z)
 refine aQ<|av<|av<|have h:=aI h bi;aR<|ak<|aw<|aX (fun w'=>St S T w' [Y c ([I n]++(X.fl j++(e64.fl t++(e8.fl l++[v64 o])))),Y y (e64.fl ae)]) (fun _=>true) bQ (fun _ _ _ D=>D.2) (fun _ _ D=>D) (by kernel_rfl)<|have a:=a.drew;show lxE _ _ _ _ _ _ _ [0,1,2,3,4,5,6,7,8,9,10,11,12,13,14,15,16,17,18,19,20,21,22,23,24,25,26,27,28,29,30,31,32,33,34,35,36,37,38,39,40,41,42,43,44,45,46,47] _ _ from ao 1 Z a<|H a Z Z (fun w b=>aL Z) Z<|H a Z Z (fun w b=>am (k:=9) u157 Z Z gB Z) Z<|J h fun bN bs h=>H a Z Z (fun w b=>a7 u143 ce Z Z (aW bs q)) Z<|H a Z Z (fun w b=>au u119 Z Z (b.r 0 Z (Up.elr (Up.m (k:=1) Z (Up.m (k:=8) (bh g Z) Up.o Z) Z) bs Z))) Z<|ao 1 Z a<|H a Z Z (fun w b=>aL Z) Z<|H a Z Z (fun w b=>am (k:=9) u157 Z Z gB Z) Z<|J h fun bO bt h=>H a Z Z (fun w b=>a7 u143 ce Z Z (aW bt q)) Z<|H a Z Z (fun w b=>au u119 Z Z (b.r 0 Z (Up.elr (Up.m (k:=1) Z (Up.m (k:=8) (bh g Z) Up.o Z) Z) bt Z))) Z<|ao 1 Z a<|H a Z Z (fun w b=>aL Z) Z<|H a Z Z (fun w b=>am (k:=9) u157 Z Z gB Z) Z ?_
 refine J h fun bP bu h=>H a Z Z (fun w b=>a7 u143 ce Z Z (aW bu q)) Z<|H a Z Z (fun w b=>au u119 Z Z (b.r 0 Z (Up.elr (Up.m (k:=1) Z (Up.m (k:=8) (bh g Z) Up.o Z) Z) bu Z))) Z<|ao 1 Z a<|H a Z Z (fun w b=>aL Z) Z<|H a Z Z (fun w b=>am (k:=9) u157 Z Z gB Z) Z<|J h fun bR bv h=>H a Z Z (fun w b=>a7 u143 ce Z Z (aW bv q)) Z<|H a Z Z (fun w b=>au u119 Z Z (b.r 0 Z (Up.elr (Up.m (k:=1) Z (Up.m (k:=8) (bh g Z) Up.o Z) Z) bv Z))) Z<|ao 1 Z a<|H a Z Z (fun w b=>aL Z) Z<|H a Z Z (fun w b=>am (k:=9) u157 Z Z gB Z) Z<|J h fun bS bw h=>H a Z Z (fun w b=>a7 u143 ce Z Z (aW bw q)) Z<|H a Z Z (fun w b=>au u119 Z Z (b.r 0 Z (Up.elr (Up.m (k:=1) Z (Up.m (k:=8) (bh g Z) Up.o Z) Z) bw Z))) Z<|ao 1 Z a<|H a Z Z (fun w b=>aL Z) Z<|H a Z Z (fun w b=>am (k:=9) u157 Z Z gB Z) Z<|J h fun bU bz h=>H a Z Z (fun w b=>a7 u143 ce Z Z (aW bz q)) Z<|H a Z Z (fun w b=>au u119 Z Z (b.r 0 Z (Up.elr (Up.m (k:=1) Z (Up.m (k:=8) (bh g Z) Up.o Z) Z) bz Z))) Z ?_
 refine ao 1 Z a<|H a Z Z (fun w b=>aL Z) Z<|H a Z Z (fun w b=>am (k:=9) u157 Z Z gB Z) Z<|J h fun bV bA h=>H a Z Z (fun w b=>a7 u143 ce Z Z (aW bA q)) Z<|H a Z Z (fun w b=>au u119 Z Z (b.r 0 Z (Up.elr (Up.m (k:=1) Z (Up.m (k:=8) (bh g Z) Up.o Z) Z) bA Z))) Z<|ao 1 Z a<|H a Z Z (fun w b=>aL Z) Z<|H a Z Z (fun w b=>am (k:=9) u157 Z Z gB Z) Z<|J h fun bW bB h=>H a Z Z (fun w b=>a7 u143 ce Z Z (aW bB q)) Z<|H a Z Z (fun w b=>au u119 Z Z (b.r 0 Z (Up.elr (Up.m (k:=1) Z (Up.m (k:=8) (bh g Z) Up.o Z) Z) bB Z))) Z<|ao 8 Z a<|bp a<|ak<|aw<|R<|V 1 Z<|P<|aq<|ax [(0,O c 0),(2,O y 0),(9,v64 bN),(10,v64 bO),(11,v64 bP),(12,v64 bR),(13,v64 bS),(14,v64 bU),(15,v64 bV),(16,v64 bW),(131,I 0)] Z ?_
 refine aT (F.HM t ae n j l o) (fun (s:UInt64×UInt64×UInt64×UInt64×UInt64×UInt64×UInt64×UInt64×Int) L w=>L=[(0,O c 0),(2,O y 0),(9,v64 s.1),(10,v64 s.2.1),(11,v64 s.2.2.1),(12,v64 s.2.2.2.1),(13,v64 s.2.2.2.2.1),(14,v64 s.2.2.2.2.2.1),(15,v64 s.2.2.2.2.2.2.1),(16,v64 s.2.2.2.2.2.2.2.1),(131,I s.2.2.2.2.2.2.2.2)]/\St S T w [Y c ([I n]++(X.fl j++(e64.fl t++(e8.fl l++[v64 o])))),Y y (e64.fl ae)]) ?_ (bN,bO,bP,bR,bS,bU,bV,bW,0) ⟨Z,a⟩ h
 rintro cG ⟨d,u,z,E,p,x,f,A,ct⟩ L w cH hI b7 h bC
 try dsimp only at hI
 obtain⟨rfl,a⟩:=hI
 unfold F.HM at h
 refine R<|V 1 Z<|gl1 ?_
 apply gl9 Z h<;>intro h
 ·refine gl5<|aw<|aq<|R<|V 2 Z<|gl1<|aX (fun w'=>St S T w' [Y c ([I n]++(X.fl j++(e64.fl t++(e8.fl l++[v64 o])))),Y y (e64.fl ae)]) (fun i=>!([2,4,7].contains i)) bQ (fun _ _ _ D=>D.2) (fun _ _ D=>D) (by kernel_rfl)<|have a:=a.drew;show lxE _ _ _ _ _ _ _ [0,1,2,3,4,5,6,7,8,9,10,11,12,13,14,15,16,17,18,19,20,21,22,23,24,25,26] _ _ from ao 2 Z a<|J h fun an b8 h=>aY a Z Z (by kernel_rfl) Z (cj p (-14) b8 ) Z ?_
  rintro _ w ⟨rfl,B⟩
  have a:=a.e B
  refine ao 1 Z a<|J h fun ap b9 h=>aY a Z Z (by kernel_rfl) Z (cj p (-18) b9 ) Z ?_
  rintro _ w ⟨rfl,B⟩
  have a:=a.e B
  refine H a Z Z (fun w b=>aj Z Z (dr _ an ap)) Z<|ao 1 Z a<|J h fun aH ca h=>aY a Z Z (by kernel_rfl) Z (cj p (-41) ca ) Z ?_
  rintro _ w ⟨rfl,B⟩
  have a:=a.e B
  refine H a Z Z (fun w b=>aj Z Z (dr _ (an ^^^ ap) aH)) Z<|H a Z Z (fun w b=>aj Z Z (bT _ A ((an ^^^ ap) ^^^ aH))) Z<|ao 4 Z a<|H a Z Z (fun w b=>aj Z Z (dr _ x f)) Z<|H a Z Z (fun w b=>aj Z Z (eu _ p (x ^^^ f))) Z<|H a Z Z (fun w b=>aj Z Z (dr _ f (p &&& (x ^^^ f)))) Z<|H a Z Z (fun w b=>aj Z Z (bT _ (A+((an ^^^ ap) ^^^ aH)) (f ^^^ (p &&& (x ^^^ f))))) Z<|ao 1 Z a<|J h fun bX bD h=>H a Z Z (fun w b=>a7 u167 ce Z Z (aW bD (show F.Ex.length=80 from Z))) Z<|H a Z Z (fun w b=>au u119 Z Z (hT.sha_k512.cell b.fr bD Z)) Z<|H a Z Z (fun w b=>aj Z Z (bT _ ((A+((an ^^^ ap) ^^^ aH))+(f ^^^ (p &&& (x ^^^ f)))) bX)) Z<|ao 1 Z a<|J h fun cu bE h=>H a Z Z (fun w b=>a7 u167 ce Z Z (aW bE C)) Z<|H a Z Z (fun w b=>au u119 Z Z (b.r 1 Z (Up.elr Up.last bE Z))) Z<|H a Z Z (fun w b=>aj Z Z (bT _ (((A+((an ^^^ ap) ^^^ aH))+(f ^^^ (p &&& (x ^^^ f))))+bX) cu)) Z<|aZ h fun aJ cc h=>H a Z Z (fun w b=>ba (v:=v64 aJ) (by rw[<-cc]; rfl)) Z<|bp a<|ak<|R<|V 1 Z ?_
  exact J h fun a1 cd h=>bf a Z (cj d (-28) cd ) Z fun w a=>V 1 Z<|J h fun a2 cg h=>bf a Z (cj d (-34) cg ) Z fun w a=>N (aj Z Z (dr _ a1 a2)) Z<|V 1 Z<|J h fun bY ch h=>bf a Z (cj d (-39) ch ) Z fun w a=>N (aj Z Z (dr _ (a1 ^^^ a2) bY)) Z<|V 2 Z<|N (aj Z Z (eu _ d u)) Z<|V 3 Z<|N (aj Z Z (fo _ d u)) Z<|N (aj Z Z (eu _ z (d ||| u))) Z<|N (aj Z Z (fo _ (d &&& u) (z &&& (d ||| u)))) Z<|N (aj Z Z (bT _ ((a1 ^^^ a2) ^^^ bY) ((d &&& u) ||| (z &&& (d ||| u))))) Z<|aZ h fun a3 ci h=>N (ba (v:=v64 a3) (by rw[<-ci]; rfl)) Z<|P<|al<|V 5 Z<|N (aj Z Z (bT _ E aJ)) Z<|V 5 Z<|N (aj Z Z (bT _ aJ a3)) Z<|V 8 Z<|aE<|aF<|ak<|al<|V 2 Z<|aE<|bd (bc (b7 (aJ+a3,d,u,z,E+aJ,p,x,f,wI (ct+1)) _ _ ⟨Z,a⟩ (aK h bC)) Z)
 refine aQ<|av<|av<|have h:=aI h bC;aR<|ak<|R<|V 8 Z<|N (cb (vs:=[(0,v64 d,[v64 d]),(1,v64 u,[v64 u]),(2,v64 z,[v64 z]),(3,v64 E,[v64 E]),(4,v64 p,[v64 p]),(5,v64 x,[v64 x]),(6,v64 f,[v64 f]),(7,v64 A,[v64 A])]) (cells:=[v64 d,v64 u,v64 z,v64 E,v64 p,v64 x,v64 f,v64 A]) Z yH ⟨Z,Z,Z,Z,Z,Z,Z,Z,trivial⟩ (by kernel_rfl)) Z<|V 1 Z<|P<|aq<|ax [(0,O c 0),(199,.agg #[v64 d,v64 u,v64 z,v64 E,v64 p,v64 x,v64 f,v64 A]),(200,I 0)] Z ?_
 refine aT (F.Hs n j l o d u z E p x f A) (fun (s:Int×List UInt64) L w=>L=[(0,O c 0),(199,.agg #[v64 d,v64 u,v64 z,v64 E,v64 p,v64 x,v64 f,v64 A]),(200,I s.1)]/\s.2.length=8/\St S T w [Y c ([I n]++(X.fl j++(e64.fl s.2++(e8.fl l++[v64 o]))))]) ?_ (0,t) ⟨Z,q,(a.d [0] Z Z)⟩ h
 rintro cI ⟨cv,cw⟩ L w cJ hI ck h bF
 try dsimp only at hI
 obtain⟨rfl,az,a⟩:=hI
 unfold F.Hs at h
 refine R<|V 1 Z<|gl1 ?_
 apply gl9 Z h<;>intro h
 ·refine gl5<|aw<|aq<|R<|V 1 Z<|J h fun bZ bG h=>N (mb (cs:=(e64.fl ([d,u,z,E,p,x,f,A]:List UInt64)).toArray) u143 u119 Z ce Z Z (aW bG Z) (om bG Z)) Z<|V 2 Z<|P<|dk (fun w'=>St S T w' [Y c ([I n]++(X.fl j++(e64.fl cw++(e8.fl l++[v64 o]))))]) (fun i=>!([11].contains i)) bQ (fun _ _ _ D=>D.2) (fun _ _ D=>D) (by kernel_rfl)<|have a:=a.drew;show lxE _ _ _ _ _ _ _ [0,1,2,3,4,5,6,7,8,9,10,11] _ _ from ao 2 Z a<|H a Z Z (fun w b=>aL Z) Z<|H a Z Z (fun w b=>am (k:=9) u157 Z Z gB Z) Z<|J h fun b0 bI h=>H a Z Z (fun w b=>a7 u143 ce Z Z (aW bI az)) Z<|H a Z Z (fun w b=>au u119 Z Z (b.r 0 Z (Up.elr (Up.m (k:=1) Z (Up.m (k:=8) (bh g Z) Up.o Z) Z) bI Z))) Z<|ao 1 Z a<|H a Z Z (fun w b=>aj Z Z (bT _ b0 bZ)) Z<|H a Z Z (fun w b=>aL Z) Z<|H a Z Z (fun w b=>am (k:=9) u157 Z Z gB Z) Z<|J h fun cK bJ h=>H a Z Z (fun w b=>a7 u143 ce Z Z (aW bJ az)) Z<|f9 a Z Z (dt (m:=1) Z ce Z Z Z (Up.elt (t':=(b0+bZ)) (Up.m (k:=1) Z (Up.m (k:=8) (bh g Z) Up.o Z) Z) bJ Z Z) Z Z (eD Z) a (i:=0)) ?_
  intro w a
  obtain⟨cx,bK,h⟩:=eK h
  rw[bK]at a
  exact bp trivial<|aF<|ak<|al<|V 2 Z<|aE<|bd (bc (ck (wI (cv+1),cx) _ _ ⟨Z,(by rw[<-bK,List.length_set]; exact az),a⟩ (aK h bF)) Z)
 refine aQ<|av<|av<|have h:=aI h bF;aR ?_
 cases h
 exact ip Z ⟨Z,g,az,ac,a.d [0] Z Z⟩
theorem oz {n:World} {f:Nat} {S:L2} (d:Int) (a:L0) (b:List UInt64) (c:L1) (e:UInt64) {r:Int×L0×List UInt64×L1×UInt64}
  (h:F.Gv d a b c e=some r) (g:St S n n [Y f ([I d]++(X.fl a++(e64.fl b++(e8.fl c++[v64 e]))))]) (A:TB S n) (j:a.length=8) (l:b.length=8) (m:c.length=128):Calls Tryz.prog 154 #[O f 0] n (Ret fun v w=>v=.tuple #[]/\r.2.1.length=8/\r.2.2.1.length=8/\r.2.2.2.1.length=128/\St S n w [Y f ([I r.1]++(X.fl r.2.1++(e64.fl r.2.2.1++(e8.fl r.2.2.2.1++[v64 r.2.2.2.2]))))]):=by
 refine aB 11 Tryz.func154 Z Z Z<|ax [(0,O f 0)] Z ?_
 unfold F.Gv at h
 refine R<|V 1 Z<|N (aL Z) Z<|N (am (k:=0) u157 Z Z q8 Z) Z<|N (au u22 Z Z (g.r 0 Z (Up.get0 Up.o))) Z<|V 1 Z<|P ?_
 apply gl9 Z h<;>intro h
 ·refine al<|V 1 Z<|have i:=g.pick (os':=[Y f ([I d]++(X.fl a++(e64.fl b++(e8.fl c++[v64 e]))))]++[]) [0] (by decide) Z;J h fun B p h=>aH Z (mC d a b c e p i.f (A.f i) j l m) Z ?_
  rintro _ w ⟨rfl,q,s,t,o⟩
  have g:=i.g o
  refine aE ?_
  cases h
  exact ip Z ⟨Z,q,s,t,g.d [0] Z Z⟩
 refine al<|V 1 Z<|have i:=g.pick (os':=[Y f ([I d]++(X.fl a++(e64.fl b++(e8.fl c++[v64 e]))))]++[]) [0] (by decide) Z;J h fun C u h=>aH Z (mA d a b c e u i.f (A.f i) j l m) Z ?_
 rintro _ w ⟨rfl,x,y,z,o⟩
 have g:=i.g o
 refine aE ?_
 cases h
 exact ip Z ⟨Z,x,y,z,g.d [0] Z Z⟩
theorem jB {B:World} {a1:L1} {C:Value} {n:Nat} {S:L2} (t:Int) (u:L0) (x:List UInt64) (y:L1) (E:UInt64) {r:Int×L0×List UInt64×L1×UInt64}
  (h:F.E2 t u x y E a1=some r) (c:St S B B [Y n ([I t]++(X.fl u++(e64.fl x++(e8.fl y++[v64 E]))))]) (hT:TB S B) (ah:u.length=8) (H:x.length=8) (ak:y.length=128) (aO:RP S B e8 C a1):Calls Tryz.prog 117 #[O n 0,C] B (Ret fun v w=>v=.tuple #[]/\r.2.1.length=8/\r.2.2.1.length=8/\r.2.2.2.1.length=128/\St S B w [Y n ([I r.1]++(X.fl r.2.1++(e64.fl r.2.2.1++(e8.fl r.2.2.2.1++[v64 r.2.2.2.2]))))]):=by
 refine aB 50 Tryz.func117 Z Z Z<|ax [(0,O n 0),(1,C)] Z ?_
 unfold F.E2 at h
 refine R<|V 1 Z<|N (aL Z) Z<|N (am (k:=0) u157 Z Z q8 Z) Z<|N (au u22 Z Z (c.r 0 Z (Up.get0 Up.o))) Z<|J h fun q aJ h=>bf c Z (oH t aJ ) Z fun w c=>V 1 Z<|P<|aq<|ax [(0,O n 0),(1,C),(4,I q)] Z ?_
 refine aT (F.E9 q) (fun (s:L1×Int×L0×List UInt64×L1×UInt64) L w=>∃(D:Value),L=[(0,O n 0),(1,D),(4,I q)]/\RP S B e8 D s.1/\s.2.2.1.length=8/\s.2.2.2.1.length=8/\s.2.2.2.2.1.length=128/\St S B w [Y n ([I s.2.1]++(X.fl s.2.2.1++(e64.fl s.2.2.2.1++(e8.fl s.2.2.2.2.1++[v64 s.2.2.2.2.2]))))]) ?_ (a1,t,u,x,y,E) ⟨C,Z,aO,ah,H,ak,c⟩ h
 rintro aV ⟨aG,ab,ac,ad,aW,g⟩ L w aX hI T h z
 try dsimp only at hI
 obtain⟨D,rfl,o,j,d,b,c⟩:=hI
 unfold F.E9 at h
 refine aw<|R<|V 1 Z<|N (aC u24 Z (o.b c.fr)) Z<|V 1 Z<|P ?_
 apply gl9 Z h<;>intro h
 ·refine gl5<|aq<|R<|V 1 Z<|N (aL Z) Z<|N (am (k:=145) u157 Z Z rZ Z) Z<|N (au u119 Z Z (c.r 0 Z (Up.get0 (Up.m (k:=1) Z (Up.m (k:=8) (bh j Z) (Up.m (k:=8) (bh d Z) (Up.m (k:=128) (bh b Z) Up.last Z) Z) Z) Z)))) Z<|V 1 Z<|N (aD Z (dC u3 u119 q)) Z<|c7 h fun an h=>N (aj Z Z (ft _ g (UInt64.ofInt q) an)) Z<|N (aD Z (nR u119 u3 (g%(UInt64.ofInt q)))) Z<|aZ h fun aM ao h=>N (ba (v:=I aM) (by rw[<-ao]; rfl)) Z<|gl2<|V 1 Z<|N (aL Z) Z<|N (am (k:=17) u157 Z Z wB Z) Z<|V 2 Z<|J h fun aY a h=>N (CC (e:=e8) u155 sz5 Z Z Z Z b a) Z<|V 1 Z<|bC (yd (e:=e8) u24 ti5 Z Z Z c (i:=0) Z b (Up.m (k:=1) Z (Up.m (k:=8) (bh j Z) (Up.m (k:=8) (bh d Z) Up.o Z) Z) Z) (o.b c.fr) (by have:=(dI a).1; omega) (dI a).1.2.2) Z ?_
  rintro v_q w ⟨hv_q,c⟩
  subst v_q
  obtain⟨G,l,h⟩:=eK h
  rw[l]at c
  refine aZ h fun f ap h=>N (ba (v:=I f) (by rw[<-ap]; rfl)) Z<|gl2<|V 1 Z<|N (aL Z) Z<|N (am (k:=145) u157 Z Z rZ Z) Z<|N (au u119 Z Z (c.r 0 Z (Up.get0 (Up.m (k:=1) Z (Up.m (k:=8) (bh j Z) (Up.m (k:=8) (bh d Z) (Up.m (k:=128) (bh (by rw[<-l,fD _ _ _ _ (by have:=(dI a).1; omega) (dI a).1.2.2]; exact b) Z) Up.last Z) Z) Z) Z)))) Z<|V 1 Z<|N (aD Z (dC u3 u119 f)) Z<|N (aj Z Z (bT _ g (UInt64.ofInt f))) Z<|N (aL Z) Z<|N (am (k:=145) u157 Z Z rZ Z) Z<|bo (dt (m:=1) (xs:=[v64 g]) (xs':=[v64 (g+(UInt64.ofInt f))]) (i:=0) Z ce Z Z Z (Up.m (k:=1) Z (Up.m (k:=8) (bh j Z) (Up.m (k:=8) (bh d Z) (Up.m (k:=128) (bh (by rw[<-l,fD _ _ _ _ (by have:=(dI a).1; omega) (dI a).1.2.2]; exact b) Z) Up.last Z) Z) Z) Z) Z Z (eD Z) c) fun w c=>gl2<|V 2 Z<|J h fun ae A h=>N (pr u24 ti5 Z Z (o.b c.fr) A) Z<|V 1 Z<|gl2<|V 5 Z<|P ?_
  apply gl9 Z h<;>intro h
  ·refine al<|V 1 Z<|have hG:=c.pick (os':=[Y n ([I ab]++(X.fl ac++(e64.fl ad++(e8.fl G++[v64 (g+(UInt64.ofInt f))]))))]++[]) [0] (by decide) Z;J h fun p ar h=>aH Z (oz ab ac ad G (g+(UInt64.ofInt f)) ar hG.f (hT.f hG) j d (by rw[<-l,fD _ _ _ _ (by have:=(dI a).1; omega) (dI a).1.2.2]; exact b)) Z ?_
   rintro _ w ⟨rfl,ay,az,aA,aS⟩
   have c:=hG.g aS
   exact aE<|aF<|bd (bc (T (ae,p.1,p.2.1,p.2.2.1,p.2.2.2.1,p.2.2.2.2) _ _ ⟨slV D e8.sz ((f:Int).toNat) aG.length,Z,(o.g_sll A),ay,az,aA,c⟩ (aK h z)) Z)
  exact cd<|aF<|bd (bc (T (ae,ab,ac,ad,G,g+(UInt64.ofInt f)) _ _ ⟨slV D e8.sz ((f:Int).toNat) aG.length,Z,(o.g_sll A),j,d,(by rw[<-l,fD _ _ _ _ (by have:=(dI a).1; omega) (dI a).1.2.2]; exact b),c⟩ (aK h z)) Z)
 refine aQ<|av<|av<|have h:=aI h z;aR ?_
 cases h
 exact ip Z ⟨Z,j,d,b,c.d [0] Z Z⟩
end Go.Proofs
