import Derived.Test.YtahgjafdhjbkeaaGreatDoorRW0
import Derived.Test.YtahgjafdhjbkeaaGreatDoorGkFman
import Derived.Test.YtahgjafdhjbkeaaGreatDoorRWlib
set_option linter.unusedVariables false
set_option linter.unusedSimpArgs false
set_option linter.unusedSectionVars false
set_option maxRecDepth 4000
namespace Go.Proofs
open Go Go.RowKit Go.Gk
open Go.Gk renaming aa → V, af → J, ag → N, e32 → X, gl3 → Q, gl4 → R, pB → O, vB → K, vI → H
open Go.Gk.OE renaming bx → Y
theorem lG {b:World} (a0:Int) {r:Int}
  (h:F.Ek a0=some r) :Calls Tryz.prog 14 #[H a0] b (Ret fun v w=>v=H r∧St [] b w []):=by
 refine aB 10 Tryz.func14 Z Z Z<|have a:=St.k b;ax [(0,H a0)] Z ?_
 unfold F.Ek at h
 refine R<|V 1 Z<|gl1<|R<|V 1 Z<|Q<|ar<|R<|V 2 Z<|Q ?_
 refine gl9 Z h (fun h=>?_) (fun h=>?_)
 ·refine R<|V 1 Z<|Q<|az<|bA<|aW ?_
  cases h
  exact ay Z Z ⟨Z,a⟩
 refine R<|V 2 Z<|Q ?_
 refine gl9 Z h (fun h=>?_) (fun h=>?_)
 ·refine R<|V 1 Z<|Q<|az<|bA<|aW ?_
  cases h
  exact ay Z Z ⟨Z,a⟩
 refine R<|V 2 Z<|Q ?_
 refine gl9 Z h (fun h=>?_) (fun h=>?_)
 ·refine R<|V 1 Z<|Q<|az<|bA<|aW ?_
  cases h
  exact ay Z Z ⟨Z,a⟩
 refine cd<|aF<|ak<|R<|V 1 Z<|Q<|az ?_
 cases h
 exact ay Z Z ⟨Z,a⟩
theorem x5 {d:World} (a0:Int) {r:Option (Int×List UInt32×List UInt64×List UInt8×UInt64)}
  (h:F.IM a0=some r) (f:TB [] d):Calls Tryz.prog 116 #[H a0] d (Ret fun v w=>∃u0:Value,v=u0∧zp u0 (r.map (fun c=>[H c.1]++(X.fl c.2.1++(e64.fl c.2.2.1++(e8.fl c.2.2.2.1++[v64 c.2.2.2.2])))))∧(∀c,r=some c→c.2.1.length=8∧c.2.2.1.length=8∧c.2.2.2.1.length=128)∧St [] d w (zn u0 (r.map (fun c=>[H c.1]++(X.fl c.2.1++(e64.fl c.2.2.1++(e8.fl c.2.2.2.1++[v64 c.2.2.2.2])))))++[])):=by
 refine aB 27 Tryz.func116 Z Z Z<|have a:=St.k d;ax [(0,H a0)] Z ?_
 unfold F.IM at h
 refine R<|V 1 Z<|gl2<|V 1 Z<|N (bT (vs:=[(0,H a0,[H a0])]) (cells:=[H a0]++(X.fl (List.replicate 8 0)++(e64.fl (List.replicate 8 0)++(e8.fl (List.replicate 128 0)++[v64 0])))) Z Bo ⟨Z,I⟩ (by kernel_rfl)) Z<|bh (cu (cs:=[H a0]++(X.fl (List.replicate 8 0)++(e64.fl (List.replicate 8 0)++(e8.fl (List.replicate 128 0)++[v64 0])))) Z Z a) Z fun e w a=>V 1 Z<|Q ?_
 refine aZ (r:=r) (fun (g:List UInt32×List UInt64) L w=>L=[(3,O e 0)]∧g.1.length=8∧g.2.length=8∧St [] d w [Y e ([H a0]++(X.fl g.1++(e64.fl g.2++(e8.fl (List.replicate 128 0)++[v64 0]))))]) (F.Iy a0) ?_ ?_
 rotate_left
 ·intro b
  refine R<|V 1 Z<|Q<|ar<|R<|V 2 Z<|Q ?_
  refine gl9 Z h (fun h=>?_) (fun h=>?_)
  ·exact al<|V 1 Z<|N (fD (us:=X.fl F.Dq) u154 Z kj (bg (show F.Dq.length=8 from Z) Z) Z (f.sha_start256.cells a.fr)) Z<|N (aK Z) Z<|N (ao (k:=1) u157 Z Z gN Z) Z<|bl (dn (m:=8) (xs:=X.fl (List.replicate 8 0)) (xs':=X.fl F.Dq) (i:=0) Z kj Z Z Z (Up.m (k:=1) Z Up.o Z) (bg List.length_replicate Z) (bg (show F.Dq.length=8 from Z) Z) gc a) fun w a=>aE<|aF<|ak<|aH (b (F.Dq,(List.replicate 8 0)) _ _ ⟨Z,(show F.Dq.length=8 from Z),List.length_replicate,a⟩ h) Z
  refine R<|V 2 Z<|Q ?_
  refine gl9 Z h (fun h=>?_) (fun h=>?_)
  ·exact al<|V 1 Z<|N (fD (us:=e64.fl F.Dp) u143 Z iY (bg (show F.Dp.length=8 from Z) Z) Z (f.sha_start384.cells a.fr)) Z<|N (aK Z) Z<|N (ao (k:=9) u157 Z Z gv Z) Z<|bl (dn (m:=8) (xs:=e64.fl (List.replicate 8 0)) (xs':=e64.fl F.Dp) (i:=0) Z iY Z Z Z (Up.m (k:=1) Z (Up.m (k:=8) (bg List.length_replicate Z) Up.o Z) Z) (bg List.length_replicate Z) (bg (show F.Dp.length=8 from Z) Z) gc a) fun w a=>aE<|aF<|ak<|aH (b ((List.replicate 8 0),F.Dp) _ _ ⟨Z,List.length_replicate,(show F.Dp.length=8 from Z),a⟩ h) Z
  refine R<|V 2 Z<|Q ?_
  refine gl9 Z h (fun h=>?_) (fun h=>?_)
  ·exact al<|V 1 Z<|N (fD (us:=e64.fl F.Dt) u143 Z iY (bg (show F.Dt.length=8 from Z) Z) Z (f.sha_start512.cells a.fr)) Z<|N (aK Z) Z<|N (ao (k:=9) u157 Z Z gv Z) Z<|bl (dn (m:=8) (xs:=e64.fl (List.replicate 8 0)) (xs':=e64.fl F.Dt) (i:=0) Z iY Z Z Z (Up.m (k:=1) Z (Up.m (k:=8) (bg List.length_replicate Z) Up.o Z) Z) (bg List.length_replicate Z) (bg (show F.Dt.length=8 from Z) Z) gc a) fun w a=>aE<|aF<|ak<|aH (b ((List.replicate 8 0),F.Dt) _ _ ⟨Z,List.length_replicate,(show F.Dt.length=8 from Z),a⟩ h) Z
  refine R<|V 1 Z<|Q<|az<|bA<|aW ?_
  cases h
  exact ay Z Z ⟨.pointer none,Z,Z,(fun c hc=>by cases hc),a.d [] Z Z⟩
 rintro ⟨o,p⟩ L w n h
 try dsimp only at n
 obtain ⟨rfl,j,l,a⟩:=n
 unfold F.Iy at h
 refine R<|V 2 Z<|Q<|az ?_
 cases h
 exact ay Z Z ⟨O e 0,Z,⟨_,Z⟩,(fun c hc=>by cases hc; exact ⟨j,l,List.length_replicate⟩),a.d [0] Z Z⟩
theorem ov {c:World} (a0:Int) {r:Int}
  (h:F.HY a0=some r) :Calls Tryz.prog 153 #[H a0] c (Ret fun v w=>v=H r∧St [] c w []):=by
 refine aB 9 Tryz.func153 Z Z Z<|have a:=St.k c;ax [(0,H a0)] Z ?_
 unfold F.HY at h
 refine R<|V 1 Z<|gl1<|R<|V 1 Z<|Q<|ar<|R<|V 2 Z<|Q ?_
 refine gl9 Z h (fun h=>?_) (fun h=>?_)
 ·refine R<|V 1 Z<|Q<|az<|bA<|aW ?_
  cases h
  exact ay Z Z ⟨Z,a⟩
 refine aZ (r:=r) (fun (g:Bool) L w=>L=[(6,K g)]∧St [] c w []) (F.ID) ?_ ?_
 rotate_left
 ·intro b
  refine R<|V 2 Z<|Q ?_
  refine gl9 Z h (fun h=>?_) (fun h=>?_)
  ·exact gl5<|aH (b (a0 == 2) _ _ ⟨Z,a⟩ h) Z
  exact al<|V 2 Z<|Q<|aH (b (a0 == 3) _ _ ⟨Z,a⟩ h) Z
 rintro e L w d h
 try dsimp only at d
 obtain ⟨rfl,a⟩:=d
 unfold F.ID at h
 refine gl9 Z h (fun h=>?_) (fun h=>?_)
 ·refine R<|V 1 Z<|Q<|az<|bA<|aW ?_
  cases h
  exact ay Z Z ⟨Z,a⟩
 refine cd<|aF<|ak<|R<|V 1 Z<|Q<|az ?_
 cases h
 exact ay Z Z ⟨Z,a⟩
theorem mq {w0:World} {l:Nat} {S:List Nat} (n:Int) (q:List UInt32) (g:List UInt64) (j:List UInt8) (o:UInt64) {r:Int×List UInt32×List UInt64×List UInt8×UInt64}
  (h:F.Hi n q g j o=some r) (a:St S w0 w0 [Y l ([H n]++(X.fl q++(e64.fl g++(e8.fl j++[v64 o]))))]) (hT:TB S w0) (c:q.length=8) (y:g.length=8) (x:j.length=128):Calls Tryz.prog 172 #[O l 0] w0 (Ret fun v w=>v=.tuple #[]∧r.2.1.length=8∧r.2.2.1.length=8∧r.2.2.2.1.length=128∧St S w0 w [Y l ([H r.1]++(X.fl r.2.1++(e64.fl r.2.2.1++(e8.fl r.2.2.2.1++[v64 r.2.2.2.2]))))]):=by
 refine aB 221 Tryz.func172 Z Z Z<|ax [(0,O l 0)] Z ?_
 unfold F.Hi at h
 refine R<|bh (ba (cs:=X.fl (List.replicate 64 0)) Ah (by kernel_rfl) a) Z fun D w a=>gl1<|R<|V 1 Z<|Q<|ar<|ax [(0,O l 0),(2,O D 0),(21,H 0)] Z ?_
 refine aT (F.Id j q n g o) (fun (s:Int×List UInt32) L w=>L=[(0,O l 0),(2,O D 0),(21,H s.1)]∧s.2.length=64∧St S w0 w [Y l ([H n]++(X.fl q++(e64.fl g++(e8.fl j++[v64 o])))),Y D (X.fl s.2)]) ?_ (0,(List.replicate 64 0)) ⟨Z,List.length_replicate,(a.d [1,0] Z Z)⟩ h
 rintro cr ⟨ce,cf⟩ L w cE hI cg h bJ
 try dsimp only at hI
 obtain ⟨rfl,aS,a⟩:=hI
 unfold F.Id at h
 refine R<|V 1 Z<|gl1 ?_
 refine gl9 Z h (fun h=>?_) (fun h=>?_)
 ·refine gl5<|av<|ar<|R<|V 2 Z<|gl2<|V 1 Z<|N (aK Z) Z<|N (ao (k:=17) u157 Z Z vV Z) Z<|V 1 Z<|N (aj Z Z (dR _ 4 ce)) Z<|J h fun ct z h=>N (Cu (e:=e8) u155 sz5 Z Z Z x z) Z<|V 1 Z<|Q<|de (fun w'=>St S w0 w' [Y l ([H n]++(X.fl q++(e64.fl g++(e8.fl j++[v64 o])))),Y D (X.fl cf)]) (fun i=>!([24].contains i)) bR (fun _ _ _ A=>A.2) (fun _ _ A=>A) (by kernel_rfl)<|have a:=a.drew;show lxE _ _ _ _ _ _ _ [0,1,2,3,4,5,6,7,8,9,10,11,12,13,14,15,16,17,18,19,20,21,22,23,24] _ _ from an 2 Z a<|J h fun ad a1 h=>ai a Z Z (fun w b=>bk u24 ti5 Z Z ((b.bxroA 0 Z x (Up.m (k:=1) Z (Up.m (k:=8) (bg c Z) (Up.m (k:=8) (bg y Z) Up.o Z) Z) Z)).g_sll z) a1) Z<|ai a Z Z (fun w b=>a8 Tryz.underlying5 Z Z ((b.bxroA 0 Z x (Up.m (k:=1) Z (Up.m (k:=8) (bg c Z) (Up.m (k:=8) (bg y Z) Up.o Z) Z) Z)).g_sll z) a1 Z) Z<|ai a Z Z (fun w b=>aD Z (eM Tryz.underlying5 u38 ad)) Z<|ai a Z Z (fun w b=>aj Z Z (d9 _ ad.toUInt32 24)) Z<|an 1 Z a<|J h fun ae a2 h=>ai a Z Z (fun w b=>bk u24 ti5 Z Z ((b.bxroA 0 Z x (Up.m (k:=1) Z (Up.m (k:=8) (bg c Z) (Up.m (k:=8) (bg y Z) Up.o Z) Z) Z)).g_sll z) a2) Z ?_
  refine ai a Z Z (fun w b=>a8 Tryz.underlying5 Z Z ((b.bxroA 0 Z x (Up.m (k:=1) Z (Up.m (k:=8) (bg c Z) (Up.m (k:=8) (bg y Z) Up.o Z) Z) Z)).g_sll z) a2 Z) Z<|ai a Z Z (fun w b=>aD Z (eM Tryz.underlying5 u38 ae)) Z<|ai a Z Z (fun w b=>aj Z Z (d9 _ ae.toUInt32 16)) Z<|ai a Z Z (fun w b=>aj Z Z (eo _ (bN ad.toUInt32 24) (bN ae.toUInt32 16))) Z<|an 1 Z a<|J h fun aA a3 h=>ai a Z Z (fun w b=>bk u24 ti5 Z Z ((b.bxroA 0 Z x (Up.m (k:=1) Z (Up.m (k:=8) (bg c Z) (Up.m (k:=8) (bg y Z) Up.o Z) Z) Z)).g_sll z) a3) Z<|ai a Z Z (fun w b=>a8 Tryz.underlying5 Z Z ((b.bxroA 0 Z x (Up.m (k:=1) Z (Up.m (k:=8) (bg c Z) (Up.m (k:=8) (bg y Z) Up.o Z) Z) Z)).g_sll z) a3 Z) Z<|ai a Z Z (fun w b=>aD Z (eM Tryz.underlying5 u38 aA)) Z<|ai a Z Z (fun w b=>aj Z Z (d9 _ aA.toUInt32 8)) Z<|ai a Z Z (fun w b=>aj Z Z (eo _ ((bN ad.toUInt32 24) ||| (bN ae.toUInt32 16)) (bN aA.toUInt32 8))) Z<|an 1 Z a<|J h fun aU a4 h=>ai a Z Z (fun w b=>bk u24 ti5 Z Z ((b.bxroA 0 Z x (Up.m (k:=1) Z (Up.m (k:=8) (bg c Z) (Up.m (k:=8) (bg y Z) Up.o Z) Z) Z)).g_sll z) a4) Z ?_
  refine ai a Z Z (fun w b=>a8 Tryz.underlying5 Z Z ((b.bxroA 0 Z x (Up.m (k:=1) Z (Up.m (k:=8) (bg c Z) (Up.m (k:=8) (bg y Z) Up.o Z) Z) Z)).g_sll z) a4 Z) Z<|ai a Z Z (fun w b=>aD Z (eM Tryz.underlying5 u38 aU)) Z<|ai a Z Z (fun w b=>aj Z Z (eo _ (((bN ad.toUInt32 24) ||| (bN ae.toUInt32 16)) ||| (bN aA.toUInt32 8)) aU.toUInt32)) Z<|J h fun cu a5 h=>ai a Z Z (fun w b=>aY u165 cA Z Z (aV a5 aS)) Z<|fU a Z Z (dn (m:=1) Z cA Z Z Z (Up.elt (t':=((((bN ad.toUInt32 24) ||| (bN ae.toUInt32 16)) ||| (bN aA.toUInt32 8)) ||| aU.toUInt32)) Up.last a5 Z Z) Z Z (ep Z) a (i:=1)) fun w a=>a7 h fun ci a6 h=>?_
  rw [a6]at a
  exact bn I<|aF<|ak<|al<|V 2 Z<|aE<|bf (bd (cg (wI (ce+1),ci) _ _ ⟨Z,(by rw [←a6,List.length_set]; exact aS),a⟩ (aL h bJ)) Z)
 refine aQ<|au<|au<|have h:=aI h bJ;aR<|ak<|av<|R<|V 1 Z<|Q<|ar<|ax [(0,O l 0),(2,O D 0),(5,H 16)] Z ?_
 refine aT (F.E1 q n g j o) (fun (s:Int×List UInt32) L w=>L=[(0,O l 0),(2,O D 0),(5,H s.1)]∧s.2.length=64∧St S w0 w [Y l ([H n]++(X.fl q++(e64.fl g++(e8.fl j++[v64 o])))),Y D (X.fl s.2)]) ?_ (16,cf) ⟨Z,aS,a⟩ h
 rintro cv ⟨cj,ah⟩ L w cw hI bZ h be
 try dsimp only at hI
 obtain ⟨rfl,G,a⟩:=hI
 unfold F.E1 at h
 refine av<|R<|V 2 Z<|Q ?_
 refine gl9 Z h (fun h=>?_) (fun h=>?_)
 ·refine gl5<|av<|ar<|av<|aX (fun w'=>St S w0 w' [Y l ([H n]++(X.fl q++(e64.fl g++(e8.fl j++[v64 o])))),Y D (X.fl ah)]) (fun _=>true) bR (fun _ _ _ A=>A.2) (fun _ _ A=>A) (by kernel_rfl)<|have a:=a.drew;show lxE _ _ _ _ _ _ _ [0,1,2,3,4,5,6,7,8,9] _ _ from an 2 Z a<|J h fun ac bi h=>ai a Z Z (fun w b=>aY u165 cA Z Z (aV bi G)) Z<|ai a Z Z (fun w b=>aw u38 Z Z (b.r 1 Z (Up.elr Up.last bi Z))) Z<|an 2 Z a<|J h fun am bj h=>ai a Z Z (fun w b=>aY u165 cA Z Z (aV bj G)) Z<|ai a Z Z (fun w b=>aw u38 Z Z (b.r 1 Z (Up.elr Up.last bj Z))) Z<|an 2 Z a<|bn a<|ak<|de (fun w'=>St S w0 w' [Y l ([H n]++(X.fl q++(e64.fl g++(e8.fl j++[v64 o])))),Y D (X.fl ah)]) (fun i=>!([11,13,20,22,29].contains i)) bR (fun _ _ _ A=>A.2) (fun _ _ A=>A) (by kernel_rfl)<|have a:=a.drew;show lxE _ _ _ _ _ _ _ [0,1,2,3,4,5,6,7,8,9,10,11,12,13,14,15,16,17,18,19,20,21,22,23,24,25,26,27,28,29] _ _ from an 3 Z a<|J h fun aM bl h=>ai a Z Z (fun w b=>aY u165 cA Z Z (aV bl G)) Z<|ai a Z Z (fun w b=>aw u38 Z Z (b.r 1 Z (Up.elr Up.last bl Z))) Z<|an 2 Z a ?_
  refine J h fun aN bm h=>ai a Z Z (fun w b=>aY u165 cA Z Z (aV bm G)) Z<|ai a Z Z (fun w b=>aw u38 Z Z (b.r 1 Z (Up.elr Up.last bm Z))) Z<|ai a Z Z (fun w b=>aj Z Z (cT _ aM aN)) Z<|an 1 Z a<|J h fun aC b0 h=>bb a Z Z (by kernel_rfl) Z (ch ac (-7) b0 ) Z ?_
  rintro _ w ⟨rfl,E⟩
  have a:=a.e E
  refine an 1 Z a<|J h fun aG b1 h=>bb a Z Z (by kernel_rfl) Z (ch ac (-18) b1 ) Z ?_
  rintro _ w ⟨rfl,E⟩
  have a:=a.e E
  refine ai a Z Z (fun w b=>aj Z Z (dq _ aC aG)) Z<|an 1 Z a<|ai a Z Z (fun w b=>aj Z Z (cL _ ac 3)) Z<|ai a Z Z (fun w b=>aj Z Z (dq _ (aC ^^^ aG) (bu ac 3))) Z<|ai a Z Z (fun w b=>aj Z Z (cT _ (aM+aN) ((aC ^^^ aG) ^^^ (bu ac 3)))) Z<|an 1 Z a<|J h fun aO b2 h=>bb a Z Z (by kernel_rfl) Z (ch am (-17) b2 ) Z ?_
  rintro _ w ⟨rfl,E⟩
  have a:=a.e E
  refine an 1 Z a<|J h fun aP b3 h=>bb a Z Z (by kernel_rfl) Z (ch am (-19) b3 ) Z ?_
  rintro _ w ⟨rfl,E⟩
  have a:=a.e E
  refine ai a Z Z (fun w b=>aj Z Z (dq _ aO aP)) Z<|an 1 Z a<|ai a Z Z (fun w b=>aj Z Z (cL _ am 10)) Z<|ai a Z Z (fun w b=>aj Z Z (dq _ (aO ^^^ aP) (bu am 10))) Z<|ai a Z Z (fun w b=>aj Z Z (cT _ ((aM+aN)+((aC ^^^ aG) ^^^ (bu ac 3))) ((aO ^^^ aP) ^^^ (bu am 10)))) Z<|J h fun cx bo h=>ai a Z Z (fun w b=>aY u165 cA Z Z (aV bo G)) Z<|fU a Z Z (dn (m:=1) Z cA Z Z Z (Up.elt (t':=(((aM+aN)+((aC ^^^ aG) ^^^ (bu ac 3)))+((aO ^^^ aP) ^^^ (bu am 10)))) Up.last bo Z Z) Z Z (ep Z) a (i:=1)) fun w a=>a7 h fun ck bp h=>?_
  rw [bp]at a
  exact bn I<|aF<|ak<|al<|V 3 Z<|aE<|bf (bd (bZ (wI (cj+1),ck) _ _ ⟨Z,(by rw [←bp,List.length_set]; exact G),a⟩ (aL h be)) Z)
 refine aQ<|au<|au<|have h:=aI h be;aR<|ak<|av<|aX (fun w'=>St S w0 w' [Y l ([H n]++(X.fl q++(e64.fl g++(e8.fl j++[v64 o])))),Y D (X.fl ah)]) (fun _=>true) bR (fun _ _ _ A=>A.2) (fun _ _ A=>A) (by kernel_rfl)<|have a:=a.drew;show lxE _ _ _ _ _ _ _ [0,1,2,3,4,5,6,7,8,9,10,11,12,13,14,15,16,17,18,19,20,21,22,23,24,25,26,27,28,29,30,31,32,33,34,35,36,37,38,39,40,41,42,43,44,45,46,47] _ _ from an 1 Z a<|ai a Z Z (fun w b=>aK Z) Z<|ai a Z Z (fun w b=>ao (k:=1) u157 Z Z gN Z) Z<|J h fun bK bq h=>ai a Z Z (fun w b=>aY u154 cA Z Z (aV bq c)) Z<|ai a Z Z (fun w b=>aw u38 Z Z (b.r 0 Z (Up.elr (Up.m (k:=1) Z Up.o Z) bq Z))) Z<|an 1 Z a<|ai a Z Z (fun w b=>aK Z) Z<|ai a Z Z (fun w b=>ao (k:=1) u157 Z Z gN Z) Z<|J h fun bL br h=>ai a Z Z (fun w b=>aY u154 cA Z Z (aV br c)) Z<|ai a Z Z (fun w b=>aw u38 Z Z (b.r 0 Z (Up.elr (Up.m (k:=1) Z Up.o Z) br Z))) Z<|an 1 Z a<|ai a Z Z (fun w b=>aK Z) Z<|ai a Z Z (fun w b=>ao (k:=1) u157 Z Z gN Z) Z<|J h fun bM bs h=>ai a Z Z (fun w b=>aY u154 cA Z Z (aV bs c)) Z ?_
 refine ai a Z Z (fun w b=>aw u38 Z Z (b.r 0 Z (Up.elr (Up.m (k:=1) Z Up.o Z) bs Z))) Z<|an 1 Z a<|ai a Z Z (fun w b=>aK Z) Z<|ai a Z Z (fun w b=>ao (k:=1) u157 Z Z gN Z) Z<|J h fun bO bt h=>ai a Z Z (fun w b=>aY u154 cA Z Z (aV bt c)) Z<|ai a Z Z (fun w b=>aw u38 Z Z (b.r 0 Z (Up.elr (Up.m (k:=1) Z Up.o Z) bt Z))) Z<|an 1 Z a<|ai a Z Z (fun w b=>aK Z) Z<|ai a Z Z (fun w b=>ao (k:=1) u157 Z Z gN Z) Z<|J h fun bP bv h=>ai a Z Z (fun w b=>aY u154 cA Z Z (aV bv c)) Z<|ai a Z Z (fun w b=>aw u38 Z Z (b.r 0 Z (Up.elr (Up.m (k:=1) Z Up.o Z) bv Z))) Z<|an 1 Z a<|ai a Z Z (fun w b=>aK Z) Z<|ai a Z Z (fun w b=>ao (k:=1) u157 Z Z gN Z) Z<|J h fun bQ bw h=>ai a Z Z (fun w b=>aY u154 cA Z Z (aV bw c)) Z<|ai a Z Z (fun w b=>aw u38 Z Z (b.r 0 Z (Up.elr (Up.m (k:=1) Z Up.o Z) bw Z))) Z<|an 1 Z a<|ai a Z Z (fun w b=>aK Z) Z<|ai a Z Z (fun w b=>ao (k:=1) u157 Z Z gN Z) Z<|J h fun bS bz h=>?_
 refine ai a Z Z (fun w b=>aY u154 cA Z Z (aV bz c)) Z<|ai a Z Z (fun w b=>aw u38 Z Z (b.r 0 Z (Up.elr (Up.m (k:=1) Z Up.o Z) bz Z))) Z<|an 1 Z a<|ai a Z Z (fun w b=>aK Z) Z<|ai a Z Z (fun w b=>ao (k:=1) u157 Z Z gN Z) Z<|J h fun bU bA h=>ai a Z Z (fun w b=>aY u154 cA Z Z (aV bA c)) Z<|ai a Z Z (fun w b=>aw u38 Z Z (b.r 0 Z (Up.elr (Up.m (k:=1) Z Up.o Z) bA Z))) Z<|an 8 Z a<|bn a<|ak<|av<|R<|V 1 Z<|Q<|ar<|ax [(0,O l 0),(2,O D 0),(8,v32 bK),(9,v32 bL),(10,v32 bM),(11,v32 bO),(12,v32 bP),(13,v32 bQ),(14,v32 bS),(15,v32 bU),(136,H 0)] Z ?_
 refine aT (F.GQ q ah n g j o) (fun (s:UInt32×UInt32×UInt32×UInt32×UInt32×UInt32×UInt32×UInt32×Int) L w=>L=[(0,O l 0),(2,O D 0),(8,v32 s.1),(9,v32 s.2.1),(10,v32 s.2.2.1),(11,v32 s.2.2.2.1),(12,v32 s.2.2.2.2.1),(13,v32 s.2.2.2.2.2.1),(14,v32 s.2.2.2.2.2.2.1),(15,v32 s.2.2.2.2.2.2.2.1),(136,H s.2.2.2.2.2.2.2.2)]∧St S w0 w [Y l ([H n]++(X.fl q++(e64.fl g++(e8.fl j++[v64 o])))),Y D (X.fl ah)]) ?_ (bK,bL,bM,bO,bP,bQ,bS,bU,0) ⟨Z,a⟩ h
 rintro cy ⟨d,t,B,T,p,u,f,C,cl⟩ L w cz hI b4 h bB
 try dsimp only at hI
 obtain ⟨rfl,a⟩:=hI
 unfold F.GQ at h
 refine R<|V 1 Z<|gl1 ?_
 refine gl9 Z h (fun h=>?_) (fun h=>?_)
 ·refine gl5<|av<|ar<|R<|V 2 Z<|gl1<|aX (fun w'=>St S w0 w' [Y l ([H n]++(X.fl q++(e64.fl g++(e8.fl j++[v64 o])))),Y D (X.fl ah)]) (fun i=>!([2,4,7].contains i)) bR (fun _ _ _ A=>A.2) (fun _ _ A=>A) (by kernel_rfl)<|have a:=a.drew;show lxE _ _ _ _ _ _ _ [0,1,2,3,4,5,6,7,8,9,10,11,12,13,14,15,16,17,18,19,20,21,22,23,24,25,26] _ _ from an 2 Z a<|J h fun ap b5 h=>bb a Z Z (by kernel_rfl) Z (ch p (-6) b5 ) Z ?_
  rintro _ w ⟨rfl,E⟩
  have a:=a.e E
  refine an 1 Z a<|J h fun aq b6 h=>bb a Z Z (by kernel_rfl) Z (ch p (-11) b6 ) Z ?_
  rintro _ w ⟨rfl,E⟩
  have a:=a.e E
  refine ai a Z Z (fun w b=>aj Z Z (dq _ ap aq)) Z<|an 1 Z a<|J h fun aH b7 h=>bb a Z Z (by kernel_rfl) Z (ch p (-25) b7 ) Z ?_
  rintro _ w ⟨rfl,E⟩
  have a:=a.e E
  refine ai a Z Z (fun w b=>aj Z Z (dq _ (ap ^^^ aq) aH)) Z<|ai a Z Z (fun w b=>aj Z Z (cT _ C ((ap ^^^ aq) ^^^ aH))) Z<|an 4 Z a<|ai a Z Z (fun w b=>aj Z Z (dq _ u f)) Z<|ai a Z Z (fun w b=>aj Z Z (eB _ p (u ^^^ f))) Z<|ai a Z Z (fun w b=>aj Z Z (dq _ f (p &&& (u ^^^ f)))) Z<|ai a Z Z (fun w b=>aj Z Z (cT _ (C+((ap ^^^ aq) ^^^ aH)) (f ^^^ (p &&& (u ^^^ f))))) Z<|an 1 Z a<|J h fun bV bC h=>ai a Z Z (fun w b=>aY u165 cA Z Z (aV bC (show F.Ej.length=64 from Z))) Z<|ai a Z Z (fun w b=>aw u38 Z Z (hT.sha_k256.cell b.fr bC Z)) Z<|ai a Z Z (fun w b=>aj Z Z (cT _ ((C+((ap ^^^ aq) ^^^ aH))+(f ^^^ (p &&& (u ^^^ f)))) bV)) Z<|an 1 Z a<|J h fun cm bD h=>ai a Z Z (fun w b=>aY u165 cA Z Z (aV bD G)) Z<|ai a Z Z (fun w b=>aw u38 Z Z (b.r 1 Z (Up.elr Up.last bD Z))) Z<|ai a Z Z (fun w b=>aj Z Z (cT _ (((C+((ap ^^^ aq) ^^^ aH))+(f ^^^ (p &&& (u ^^^ f))))+bV) cm)) Z<|a7 h fun aJ b8 h=>ai a Z Z (fun w b=>a9 (v:=v32 aJ) (by rw [←b8]; rfl)) Z<|bn a<|ak<|R<|V 1 Z ?_
  exact J h fun aW b9 h=>bc a Z (ch d (-2) b9 ) Z fun w a=>V 1 Z<|J h fun aZ ca h=>bc a Z (ch d (-13) ca ) Z fun w a=>N (aj Z Z (dq _ aW aZ)) Z<|V 1 Z<|J h fun bW cb h=>bc a Z (ch d (-22) cb ) Z fun w a=>N (aj Z Z (dq _ (aW ^^^ aZ) bW)) Z<|V 2 Z<|N (aj Z Z (eB _ d t)) Z<|V 3 Z<|N (aj Z Z (eo _ d t)) Z<|N (aj Z Z (eB _ B (d ||| t))) Z<|N (aj Z Z (eo _ (d &&& t) (B &&& (d ||| t)))) Z<|N (aj Z Z (cT _ ((aW ^^^ aZ) ^^^ bW) ((d &&& t) ||| (B &&& (d ||| t))))) Z<|a7 h fun a0 cc h=>N (a9 (v:=v32 a0) (by rw [←cc]; rfl)) Z<|Q<|al<|V 5 Z<|N (aj Z Z (cT _ T aJ)) Z<|V 5 Z<|N (aj Z Z (cT _ aJ a0)) Z<|V 8 Z<|aE<|aF<|ak<|al<|V 2 Z<|aE<|bf (bd (b4 (aJ+a0,d,t,B,T+aJ,p,u,f,wI (cl+1)) _ _ ⟨Z,a⟩ (aL h bB)) Z)
 refine aQ<|au<|au<|have h:=aI h bB;aR<|ak<|R<|V 8 Z<|N (bT (vs:=[(0,v32 d,[v32 d]),(1,v32 t,[v32 t]),(2,v32 B,[v32 B]),(3,v32 T,[v32 T]),(4,v32 p,[v32 p]),(5,v32 u,[v32 u]),(6,v32 f,[v32 f]),(7,v32 C,[v32 C])]) (cells:=[v32 d,v32 t,v32 B,v32 T,v32 p,v32 u,v32 f,v32 C]) Z xB ⟨Z,Z,Z,Z,Z,Z,Z,Z,I⟩ (by kernel_rfl)) Z<|V 1 Z<|Q<|ar<|ax [(0,O l 0),(204,.agg #[v32 d,v32 t,v32 B,v32 T,v32 p,v32 u,v32 f,v32 C]),(205,H 0)] Z ?_
 refine aT (F.F7 n g j o d t B T p u f C) (fun (s:Int×List UInt32) L w=>L=[(0,O l 0),(204,.agg #[v32 d,v32 t,v32 B,v32 T,v32 p,v32 u,v32 f,v32 C]),(205,H s.1)]∧s.2.length=8∧St S w0 w [Y l ([H n]++(X.fl s.2++(e64.fl g++(e8.fl j++[v64 o]))))]) ?_ (0,q) ⟨Z,c,(a.d [0] Z Z)⟩ h
 rintro cB ⟨cn,co⟩ L w cC hI cd h bE
 try dsimp only at hI
 obtain ⟨rfl,ay,a⟩:=hI
 unfold F.F7 at h
 refine R<|V 1 Z<|gl1 ?_
 refine gl9 Z h (fun h=>?_) (fun h=>?_)
 ·refine gl5<|av<|ar<|R<|V 1 Z<|J h fun bX bF h=>N (lN (cs:=(X.fl ([d,t,B,T,p,u,f,C]:List UInt32)).toArray) u154 u38 Z cA Z Z (aV bF Z) (nX bF Z)) Z<|V 2 Z<|Q<|de (fun w'=>St S w0 w' [Y l ([H n]++(X.fl co++(e64.fl g++(e8.fl j++[v64 o]))))]) (fun i=>!([11].contains i)) bR (fun _ _ _ A=>A.2) (fun _ _ A=>A) (by kernel_rfl)<|have a:=a.drew;show lxE _ _ _ _ _ _ _ [0,1,2,3,4,5,6,7,8,9,10,11] _ _ from an 2 Z a<|ai a Z Z (fun w b=>aK Z) Z<|ai a Z Z (fun w b=>ao (k:=1) u157 Z Z gN Z) Z<|J h fun bY bG h=>ai a Z Z (fun w b=>aY u154 cA Z Z (aV bG ay)) Z<|ai a Z Z (fun w b=>aw u38 Z Z (b.r 0 Z (Up.elr (Up.m (k:=1) Z Up.o Z) bG Z))) Z<|an 1 Z a<|ai a Z Z (fun w b=>aj Z Z (cT _ bY bX)) Z<|ai a Z Z (fun w b=>aK Z) Z<|ai a Z Z (fun w b=>ao (k:=1) u157 Z Z gN Z) Z<|J h fun cD bH h=>ai a Z Z (fun w b=>aY u154 cA Z Z (aV bH ay)) Z<|fU a Z Z (dn (m:=1) Z cA Z Z Z (Up.elt (t':=(bY+bX)) (Up.m (k:=1) Z Up.o Z) bH Z Z) Z Z (ep Z) a (i:=0)) ?_
  intro w a
  obtain ⟨cp,bI,h⟩:=fN h
  rw [bI]at a
  exact bn I<|aF<|ak<|al<|V 2 Z<|aE<|bf (bd (cd (wI (cn+1),cp) _ _ ⟨Z,(by rw [←bI,List.length_set]; exact ay),a⟩ (aL h bE)) Z)
 refine aQ<|au<|au<|have h:=aI h bE;aR ?_
 cases h
 exact ib Z ⟨Z,ay,y,x,a.d [0] Z Z⟩
theorem mo {T:World} {c:Nat} {S:List Nat} (n:Int) (j:List UInt32) (t:List UInt64) (l:List UInt8) (o:UInt64) {r:Int×List UInt32×List UInt64×List UInt8×UInt64}
  (h:F.Ie n j t l o=some r) (a:St S T T [Y c ([H n]++(X.fl j++(e64.fl t++(e8.fl l++[v64 o]))))]) (hT:TB S T) (g:j.length=8) (q:t.length=8) (ac:l.length=128):Calls Tryz.prog 173 #[O c 0] T (Ret fun v w=>v=.tuple #[]∧r.2.1.length=8∧r.2.2.1.length=8∧r.2.2.2.1.length=128∧St S T w [Y c ([H r.1]++(X.fl r.2.1++(e64.fl r.2.2.1++(e8.fl r.2.2.2.1++[v64 r.2.2.2.2]))))]):=by
 refine aB 216 Tryz.func173 Z Z Z<|ax [(0,O c 0)] Z ?_
 unfold F.Ie at h
 refine R<|bh (ba (cs:=e64.fl (List.replicate 80 0)) z7 (by kernel_rfl) a) Z fun y w a=>gl1<|R<|V 1 Z<|Q<|ar<|ax [(0,O c 0),(2,O y 0),(22,H 0)] Z ?_
 refine aT (F.HB l t n j o) (fun (s:Int×List UInt64) L w=>L=[(0,O c 0),(2,O y 0),(22,H s.1)]∧s.2.length=80∧St S T w [Y c ([H n]++(X.fl j++(e64.fl t++(e8.fl l++[v64 o])))),Y y (e64.fl s.2)]) ?_ (0,(List.replicate 80 0)) ⟨Z,List.length_replicate,(a.d [1,0] Z Z)⟩ h
 rintro cz ⟨G,cl⟩ L w cL hI cm h bL
 try dsimp only at hI
 obtain ⟨rfl,bM,a⟩:=hI
 unfold F.HB at h
 refine R<|V 1 Z<|gl1 ?_
 refine gl9 Z h (fun h=>?_) (fun h=>?_)
 ·refine gl5<|av<|ar<|R<|V 2 Z<|gl2<|V 1 Z<|N (aK Z) Z<|N (ao (k:=17) u157 Z Z vV Z) Z<|V 1 Z<|N (aj Z Z (dR _ 8 G)) Z<|V 1 Z<|N (aj Z Z (dR _ 8 G)) Z<|V 1 Z<|J h fun aU aq h=>N (Ca (e:=e8) u155 sz5 Z Z Z Z ac aq) Z<|N (aC u24 Z ((a.bxroA 0 Z ac (Up.m (k:=1) Z (Up.m (k:=8) (bg g Z) (Up.m (k:=8) (bg q Z) Up.o Z) Z) Z)).g_sl aq)) Z<|V 1 Z<|Q<|ar<|ax [(0,O c 0),(2,O y 0),(3,H G),(22,H G),(33,slV (.slice (some ⟨c,17,none⟩) 128 128) e8.sz ((wI (8*G):Int).toNat) ((wI ((wI (8*G))+8):Int).toNat)),(34,H (aU.length:Int)),(35,H 0)] Z ?_
  refine aT (F.Ga G aU) (fun (s:Int×List UInt64) L w=>L=[(0,O c 0),(2,O y 0),(3,H G),(22,H G),(33,slV (.slice (some ⟨c,17,none⟩) 128 128) e8.sz ((wI (8*G):Int).toNat) ((wI ((wI (8*G))+8):Int).toNat)),(34,H (aU.length:Int)),(35,H s.1)]∧s.2.length=80∧St S T w [Y c ([H n]++(X.fl j++(e64.fl t++(e8.fl l++[v64 o])))),Y y (e64.fl s.2)]) ?_ (0,cl) ⟨Z,bM,a⟩ h
  rintro cA ⟨cn,co⟩ L w cB hI b2 h a3
  try dsimp only at hI
  obtain ⟨rfl,ay,a⟩:=hI
  unfold F.Ga at h
  refine R<|V 1 Z<|gl1 ?_
  refine gl9 Z h (fun h=>?_) (fun h=>?_)
  ·refine gl5<|av<|ar<|R<|J h fun aW a4 h=>N (bk u24 ti5 Z Z ((a.bxroA 0 Z ac (Up.m (k:=1) Z (Up.m (k:=8) (bg g Z) (Up.m (k:=8) (bg q Z) Up.o Z) Z) Z)).g_sl aq) a4) Z<|N (a8 Tryz.underlying5 Z Z ((a.bxroA 0 Z ac (Up.m (k:=1) Z (Up.m (k:=8) (bg g Z) (Up.m (k:=8) (bg q Z) Up.o Z) Z) Z)).g_sl aq) a4 Z) Z<|V 1 Z<|Q<|al<|V 2 Z<|J h fun aZ a5 h=>N (aY u167 cb Z Z (aV a5 ay)) Z<|N (aw u119 Z Z (a.r 1 Z (Up.elr Up.last a5 Z))) Z<|N (aj Z Z (dr _ aZ 8)) Z<|V 1 Z<|N (aD Z (qg Tryz.underlying5 u119 aW)) Z<|N (aj Z Z (eX _ (bB aZ 8) aW.toUInt64)) Z<|J h fun cC a6 h=>N (aY u167 cb Z Z (aV a6 ay)) Z<|bl (dn (m:=1) Z cb Z Z Z (Up.elt (t':=((bB aZ 8) ||| aW.toUInt64)) Up.last a6 Z Z) Z Z (ep Z) a (i:=1)) fun w a=>a7 h fun cp be h=>?_
   rw [be]at a
   exact aE<|aF<|ak<|al<|V 2 Z<|aE<|bf (bd (b2 (wI (cn+1),cp) _ _ ⟨Z,(by rw [←be,List.length_set]; exact ay),a⟩ (aL h a3)) Z)
  exact aQ<|au<|au<|have h:=aI h a3;aR<|aF<|ak<|al<|V 2 Z<|aE<|bf (bd (cm (wI (G+1),co) _ _ ⟨Z,ay,a⟩ (aL h bL)) Z)
 refine aQ<|au<|au<|have h:=aI h bL;aR<|ak<|av<|R<|V 1 Z<|Q<|ar<|ax [(0,O c 0),(2,O y 0),(6,H 16)] Z ?_
 refine aT (F.EG t n j l o) (fun (s:Int×List UInt64) L w=>L=[(0,O c 0),(2,O y 0),(6,H s.1)]∧s.2.length=80∧St S T w [Y c ([H n]++(X.fl j++(e64.fl t++(e8.fl l++[v64 o])))),Y y (e64.fl s.2)]) ?_ (16,cl) ⟨Z,bM,a⟩ h
 rintro cD ⟨cq,ae⟩ L w cE hI b3 h bi
 try dsimp only at hI
 obtain ⟨rfl,C,a⟩:=hI
 unfold F.EG at h
 refine av<|R<|V 2 Z<|Q ?_
 refine gl9 Z h (fun h=>?_) (fun h=>?_)
 ·refine gl5<|av<|ar<|av<|aX (fun w'=>St S T w' [Y c ([H n]++(X.fl j++(e64.fl t++(e8.fl l++[v64 o])))),Y y (e64.fl ae)]) (fun _=>true) bR (fun _ _ _ D=>D.2) (fun _ _ D=>D) (by kernel_rfl)<|have a:=a.drew;show lxE _ _ _ _ _ _ _ [0,1,2,3,4,5,6,7,8,9] _ _ from an 2 Z a<|J h fun ab bj h=>ai a Z Z (fun w b=>aY u167 cb Z Z (aV bj C)) Z<|ai a Z Z (fun w b=>aw u119 Z Z (b.r 1 Z (Up.elr Up.last bj Z))) Z<|an 2 Z a<|J h fun ah bm h=>ai a Z Z (fun w b=>aY u167 cb Z Z (aV bm C)) Z<|ai a Z Z (fun w b=>aw u119 Z Z (b.r 1 Z (Up.elr Up.last bm Z))) Z<|an 2 Z a<|bn a<|ak<|de (fun w'=>St S T w' [Y c ([H n]++(X.fl j++(e64.fl t++(e8.fl l++[v64 o])))),Y y (e64.fl ae)]) (fun i=>!([11,13,20,22,29].contains i)) bR (fun _ _ _ D=>D.2) (fun _ _ D=>D) (by kernel_rfl)<|have a:=a.drew;show lxE _ _ _ _ _ _ _ [0,1,2,3,4,5,6,7,8,9,10,11,12,13,14,15,16,17,18,19,20,21,22,23,24,25,26,27,28,29] _ _ from an 3 Z a<|J h fun aN bo h=>ai a Z Z (fun w b=>aY u167 cb Z Z (aV bo C)) Z<|ai a Z Z (fun w b=>aw u119 Z Z (b.r 1 Z (Up.elr Up.last bo Z))) Z<|an 2 Z a ?_
  refine J h fun aO bp h=>ai a Z Z (fun w b=>aY u167 cb Z Z (aV bp C)) Z<|ai a Z Z (fun w b=>aw u119 Z Z (b.r 1 Z (Up.elr Up.last bp Z))) Z<|ai a Z Z (fun w b=>aj Z Z (bU _ aN aO)) Z<|an 1 Z a<|J h fun aA b4 h=>bb a Z Z (by kernel_rfl) Z (ci ab (-1) b4 ) Z ?_
  rintro _ w ⟨rfl,B⟩
  have a:=a.e B
  refine an 1 Z a<|J h fun aG b5 h=>bb a Z Z (by kernel_rfl) Z (ci ab (-8) b5 ) Z ?_
  rintro _ w ⟨rfl,B⟩
  have a:=a.e B
  refine ai a Z Z (fun w b=>aj Z Z (dm _ aA aG)) Z<|an 1 Z a<|ai a Z Z (fun w b=>aj Z Z (cc _ ab 7)) Z<|ai a Z Z (fun w b=>aj Z Z (dm _ (aA ^^^ aG) (aM ab 7))) Z<|ai a Z Z (fun w b=>aj Z Z (bU _ (aN+aO) ((aA ^^^ aG) ^^^ (aM ab 7)))) Z<|an 1 Z a<|J h fun aP b6 h=>bb a Z Z (by kernel_rfl) Z (ci ah (-19) b6 ) Z ?_
  rintro _ w ⟨rfl,B⟩
  have a:=a.e B
  refine an 1 Z a<|J h fun aS b7 h=>bb a Z Z (by kernel_rfl) Z (ci ah (-61) b7 ) Z ?_
  rintro _ w ⟨rfl,B⟩
  have a:=a.e B
  refine ai a Z Z (fun w b=>aj Z Z (dm _ aP aS)) Z<|an 1 Z a<|ai a Z Z (fun w b=>aj Z Z (cc _ ah 6)) Z<|ai a Z Z (fun w b=>aj Z Z (dm _ (aP ^^^ aS) (aM ah 6))) Z<|ai a Z Z (fun w b=>aj Z Z (bU _ ((aN+aO)+((aA ^^^ aG) ^^^ (aM ab 7))) ((aP ^^^ aS) ^^^ (aM ah 6)))) Z<|J h fun cF bq h=>ai a Z Z (fun w b=>aY u167 cb Z Z (aV bq C)) Z<|fU a Z Z (dn (m:=1) Z cb Z Z Z (Up.elt (t':=(((aN+aO)+((aA ^^^ aG) ^^^ (aM ab 7)))+((aP ^^^ aS) ^^^ (aM ah 6)))) Up.last bq Z Z) Z Z (ep Z) a (i:=1)) fun w a=>a7 h fun cr br h=>?_
  rw [br]at a
  exact bn I<|aF<|ak<|al<|V 3 Z<|aE<|bf (bd (b3 (wI (cq+1),cr) _ _ ⟨Z,(by rw [←br,List.length_set]; exact C),a⟩ (aL h bi)) Z)
 refine aQ<|au<|au<|have h:=aI h bi;aR<|ak<|av<|aX (fun w'=>St S T w' [Y c ([H n]++(X.fl j++(e64.fl t++(e8.fl l++[v64 o])))),Y y (e64.fl ae)]) (fun _=>true) bR (fun _ _ _ D=>D.2) (fun _ _ D=>D) (by kernel_rfl)<|have a:=a.drew;show lxE _ _ _ _ _ _ _ [0,1,2,3,4,5,6,7,8,9,10,11,12,13,14,15,16,17,18,19,20,21,22,23,24,25,26,27,28,29,30,31,32,33,34,35,36,37,38,39,40,41,42,43,44,45,46,47] _ _ from an 1 Z a<|ai a Z Z (fun w b=>aK Z) Z<|ai a Z Z (fun w b=>ao (k:=9) u157 Z Z gv Z) Z<|J h fun bN bs h=>ai a Z Z (fun w b=>aY u143 cb Z Z (aV bs q)) Z<|ai a Z Z (fun w b=>aw u119 Z Z (b.r 0 Z (Up.elr (Up.m (k:=1) Z (Up.m (k:=8) (bg g Z) Up.o Z) Z) bs Z))) Z<|an 1 Z a<|ai a Z Z (fun w b=>aK Z) Z<|ai a Z Z (fun w b=>ao (k:=9) u157 Z Z gv Z) Z<|J h fun bO bt h=>ai a Z Z (fun w b=>aY u143 cb Z Z (aV bt q)) Z<|ai a Z Z (fun w b=>aw u119 Z Z (b.r 0 Z (Up.elr (Up.m (k:=1) Z (Up.m (k:=8) (bg g Z) Up.o Z) Z) bt Z))) Z<|an 1 Z a<|ai a Z Z (fun w b=>aK Z) Z<|ai a Z Z (fun w b=>ao (k:=9) u157 Z Z gv Z) Z ?_
 refine J h fun bP bu h=>ai a Z Z (fun w b=>aY u143 cb Z Z (aV bu q)) Z<|ai a Z Z (fun w b=>aw u119 Z Z (b.r 0 Z (Up.elr (Up.m (k:=1) Z (Up.m (k:=8) (bg g Z) Up.o Z) Z) bu Z))) Z<|an 1 Z a<|ai a Z Z (fun w b=>aK Z) Z<|ai a Z Z (fun w b=>ao (k:=9) u157 Z Z gv Z) Z<|J h fun bQ bv h=>ai a Z Z (fun w b=>aY u143 cb Z Z (aV bv q)) Z<|ai a Z Z (fun w b=>aw u119 Z Z (b.r 0 Z (Up.elr (Up.m (k:=1) Z (Up.m (k:=8) (bg g Z) Up.o Z) Z) bv Z))) Z<|an 1 Z a<|ai a Z Z (fun w b=>aK Z) Z<|ai a Z Z (fun w b=>ao (k:=9) u157 Z Z gv Z) Z<|J h fun bS bw h=>ai a Z Z (fun w b=>aY u143 cb Z Z (aV bw q)) Z<|ai a Z Z (fun w b=>aw u119 Z Z (b.r 0 Z (Up.elr (Up.m (k:=1) Z (Up.m (k:=8) (bg g Z) Up.o Z) Z) bw Z))) Z<|an 1 Z a<|ai a Z Z (fun w b=>aK Z) Z<|ai a Z Z (fun w b=>ao (k:=9) u157 Z Z gv Z) Z<|J h fun bV bz h=>ai a Z Z (fun w b=>aY u143 cb Z Z (aV bz q)) Z<|ai a Z Z (fun w b=>aw u119 Z Z (b.r 0 Z (Up.elr (Up.m (k:=1) Z (Up.m (k:=8) (bg g Z) Up.o Z) Z) bz Z))) Z ?_
 refine an 1 Z a<|ai a Z Z (fun w b=>aK Z) Z<|ai a Z Z (fun w b=>ao (k:=9) u157 Z Z gv Z) Z<|J h fun bW bA h=>ai a Z Z (fun w b=>aY u143 cb Z Z (aV bA q)) Z<|ai a Z Z (fun w b=>aw u119 Z Z (b.r 0 Z (Up.elr (Up.m (k:=1) Z (Up.m (k:=8) (bg g Z) Up.o Z) Z) bA Z))) Z<|an 1 Z a<|ai a Z Z (fun w b=>aK Z) Z<|ai a Z Z (fun w b=>ao (k:=9) u157 Z Z gv Z) Z<|J h fun bX bC h=>ai a Z Z (fun w b=>aY u143 cb Z Z (aV bC q)) Z<|ai a Z Z (fun w b=>aw u119 Z Z (b.r 0 Z (Up.elr (Up.m (k:=1) Z (Up.m (k:=8) (bg g Z) Up.o Z) Z) bC Z))) Z<|an 8 Z a<|bn a<|ak<|av<|R<|V 1 Z<|Q<|ar<|ax [(0,O c 0),(2,O y 0),(9,v64 bN),(10,v64 bO),(11,v64 bP),(12,v64 bQ),(13,v64 bS),(14,v64 bV),(15,v64 bW),(16,v64 bX),(131,H 0)] Z ?_
 refine aT (F.G9 t ae n j l o) (fun (s:UInt64×UInt64×UInt64×UInt64×UInt64×UInt64×UInt64×UInt64×Int) L w=>L=[(0,O c 0),(2,O y 0),(9,v64 s.1),(10,v64 s.2.1),(11,v64 s.2.2.1),(12,v64 s.2.2.2.1),(13,v64 s.2.2.2.2.1),(14,v64 s.2.2.2.2.2.1),(15,v64 s.2.2.2.2.2.2.1),(16,v64 s.2.2.2.2.2.2.2.1),(131,H s.2.2.2.2.2.2.2.2)]∧St S T w [Y c ([H n]++(X.fl j++(e64.fl t++(e8.fl l++[v64 o])))),Y y (e64.fl ae)]) ?_ (bN,bO,bP,bQ,bS,bV,bW,bX,0) ⟨Z,a⟩ h
 rintro cG ⟨d,u,z,E,p,x,f,A,ct⟩ L w cH hI b8 h bD
 try dsimp only at hI
 obtain ⟨rfl,a⟩:=hI
 unfold F.G9 at h
 refine R<|V 1 Z<|gl1 ?_
 refine gl9 Z h (fun h=>?_) (fun h=>?_)
 ·refine gl5<|av<|ar<|R<|V 2 Z<|gl1<|aX (fun w'=>St S T w' [Y c ([H n]++(X.fl j++(e64.fl t++(e8.fl l++[v64 o])))),Y y (e64.fl ae)]) (fun i=>!([2,4,7].contains i)) bR (fun _ _ _ D=>D.2) (fun _ _ D=>D) (by kernel_rfl)<|have a:=a.drew;show lxE _ _ _ _ _ _ _ [0,1,2,3,4,5,6,7,8,9,10,11,12,13,14,15,16,17,18,19,20,21,22,23,24,25,26] _ _ from an 2 Z a<|J h fun am b9 h=>bb a Z Z (by kernel_rfl) Z (ci p (-14) b9 ) Z ?_
  rintro _ w ⟨rfl,B⟩
  have a:=a.e B
  refine an 1 Z a<|J h fun ap ca h=>bb a Z Z (by kernel_rfl) Z (ci p (-18) ca ) Z ?_
  rintro _ w ⟨rfl,B⟩
  have a:=a.e B
  refine ai a Z Z (fun w b=>aj Z Z (dm _ am ap)) Z<|an 1 Z a<|J h fun aH cd h=>bb a Z Z (by kernel_rfl) Z (ci p (-41) cd ) Z ?_
  rintro _ w ⟨rfl,B⟩
  have a:=a.e B
  refine ai a Z Z (fun w b=>aj Z Z (dm _ (am ^^^ ap) aH)) Z<|ai a Z Z (fun w b=>aj Z Z (bU _ A ((am ^^^ ap) ^^^ aH))) Z<|an 4 Z a<|ai a Z Z (fun w b=>aj Z Z (dm _ x f)) Z<|ai a Z Z (fun w b=>aj Z Z (ej _ p (x ^^^ f))) Z<|ai a Z Z (fun w b=>aj Z Z (dm _ f (p &&& (x ^^^ f)))) Z<|ai a Z Z (fun w b=>aj Z Z (bU _ (A+((am ^^^ ap) ^^^ aH)) (f ^^^ (p &&& (x ^^^ f))))) Z<|an 1 Z a<|J h fun bY bE h=>ai a Z Z (fun w b=>aY u167 cb Z Z (aV bE (show F.D0.length=80 from Z))) Z<|ai a Z Z (fun w b=>aw u119 Z Z (hT.sha_k512.cell b.fr bE Z)) Z<|ai a Z Z (fun w b=>aj Z Z (bU _ ((A+((am ^^^ ap) ^^^ aH))+(f ^^^ (p &&& (x ^^^ f)))) bY)) Z<|an 1 Z a<|J h fun cu bF h=>ai a Z Z (fun w b=>aY u167 cb Z Z (aV bF C)) Z<|ai a Z Z (fun w b=>aw u119 Z Z (b.r 1 Z (Up.elr Up.last bF Z))) Z<|ai a Z Z (fun w b=>aj Z Z (bU _ (((A+((am ^^^ ap) ^^^ aH))+(f ^^^ (p &&& (x ^^^ f))))+bY) cu)) Z<|a7 h fun aJ ce h=>ai a Z Z (fun w b=>a9 (v:=v64 aJ) (by rw [←ce]; rfl)) Z<|bn a<|ak<|R<|V 1 Z ?_
  exact J h fun a0 cf h=>bc a Z (ci d (-28) cf ) Z fun w a=>V 1 Z<|J h fun a1 cg h=>bc a Z (ci d (-34) cg ) Z fun w a=>N (aj Z Z (dm _ a0 a1)) Z<|V 1 Z<|J h fun bZ ch h=>bc a Z (ci d (-39) ch ) Z fun w a=>N (aj Z Z (dm _ (a0 ^^^ a1) bZ)) Z<|V 2 Z<|N (aj Z Z (ej _ d u)) Z<|V 3 Z<|N (aj Z Z (eX _ d u)) Z<|N (aj Z Z (ej _ z (d ||| u))) Z<|N (aj Z Z (eX _ (d &&& u) (z &&& (d ||| u)))) Z<|N (aj Z Z (bU _ ((a0 ^^^ a1) ^^^ bZ) ((d &&& u) ||| (z &&& (d ||| u))))) Z<|a7 h fun a2 cj h=>N (a9 (v:=v64 a2) (by rw [←cj]; rfl)) Z<|Q<|al<|V 5 Z<|N (aj Z Z (bU _ E aJ)) Z<|V 5 Z<|N (aj Z Z (bU _ aJ a2)) Z<|V 8 Z<|aE<|aF<|ak<|al<|V 2 Z<|aE<|bf (bd (b8 (aJ+a2,d,u,z,E+aJ,p,x,f,wI (ct+1)) _ _ ⟨Z,a⟩ (aL h bD)) Z)
 refine aQ<|au<|au<|have h:=aI h bD;aR<|ak<|R<|V 8 Z<|N (bT (vs:=[(0,v64 d,[v64 d]),(1,v64 u,[v64 u]),(2,v64 z,[v64 z]),(3,v64 E,[v64 E]),(4,v64 p,[v64 p]),(5,v64 x,[v64 x]),(6,v64 f,[v64 f]),(7,v64 A,[v64 A])]) (cells:=[v64 d,v64 u,v64 z,v64 E,v64 p,v64 x,v64 f,v64 A]) Z yf ⟨Z,Z,Z,Z,Z,Z,Z,Z,I⟩ (by kernel_rfl)) Z<|V 1 Z<|Q<|ar<|ax [(0,O c 0),(199,.agg #[v64 d,v64 u,v64 z,v64 E,v64 p,v64 x,v64 f,v64 A]),(200,H 0)] Z ?_
 refine aT (F.GO n j l o d u z E p x f A) (fun (s:Int×List UInt64) L w=>L=[(0,O c 0),(199,.agg #[v64 d,v64 u,v64 z,v64 E,v64 p,v64 x,v64 f,v64 A]),(200,H s.1)]∧s.2.length=8∧St S T w [Y c ([H n]++(X.fl j++(e64.fl s.2++(e8.fl l++[v64 o]))))]) ?_ (0,t) ⟨Z,q,(a.d [0] Z Z)⟩ h
 rintro cI ⟨cv,cw⟩ L w cJ hI ck h bG
 try dsimp only at hI
 obtain ⟨rfl,az,a⟩:=hI
 unfold F.GO at h
 refine R<|V 1 Z<|gl1 ?_
 refine gl9 Z h (fun h=>?_) (fun h=>?_)
 ·refine gl5<|av<|ar<|R<|V 1 Z<|J h fun b0 bH h=>N (lN (cs:=(e64.fl ([d,u,z,E,p,x,f,A]:List UInt64)).toArray) u143 u119 Z cb Z Z (aV bH Z) (nX bH Z)) Z<|V 2 Z<|Q<|de (fun w'=>St S T w' [Y c ([H n]++(X.fl j++(e64.fl cw++(e8.fl l++[v64 o]))))]) (fun i=>!([11].contains i)) bR (fun _ _ _ D=>D.2) (fun _ _ D=>D) (by kernel_rfl)<|have a:=a.drew;show lxE _ _ _ _ _ _ _ [0,1,2,3,4,5,6,7,8,9,10,11] _ _ from an 2 Z a<|ai a Z Z (fun w b=>aK Z) Z<|ai a Z Z (fun w b=>ao (k:=9) u157 Z Z gv Z) Z<|J h fun b1 bI h=>ai a Z Z (fun w b=>aY u143 cb Z Z (aV bI az)) Z<|ai a Z Z (fun w b=>aw u119 Z Z (b.r 0 Z (Up.elr (Up.m (k:=1) Z (Up.m (k:=8) (bg g Z) Up.o Z) Z) bI Z))) Z<|an 1 Z a<|ai a Z Z (fun w b=>aj Z Z (bU _ b1 b0)) Z<|ai a Z Z (fun w b=>aK Z) Z<|ai a Z Z (fun w b=>ao (k:=9) u157 Z Z gv Z) Z<|J h fun cK bJ h=>ai a Z Z (fun w b=>aY u143 cb Z Z (aV bJ az)) Z<|fU a Z Z (dn (m:=1) Z cb Z Z Z (Up.elt (t':=(b1+b0)) (Up.m (k:=1) Z (Up.m (k:=8) (bg g Z) Up.o Z) Z) bJ Z Z) Z Z (ep Z) a (i:=0)) ?_
  intro w a
  obtain ⟨cx,bK,h⟩:=fN h
  rw [bK]at a
  exact bn I<|aF<|ak<|al<|V 2 Z<|aE<|bf (bd (ck (wI (cv+1),cx) _ _ ⟨Z,(by rw [←bK,List.length_set]; exact az),a⟩ (aL h bG)) Z)
 refine aQ<|au<|au<|have h:=aI h bG;aR ?_
 cases h
 exact ib Z ⟨Z,g,az,ac,a.d [0] Z Z⟩
theorem og {n:World} {f:Nat} {S:List Nat} (d:Int) (a:List UInt32) (b:List UInt64) (c:List UInt8) (e:UInt64) {r:Int×List UInt32×List UInt64×List UInt8×UInt64}
  (h:F.FU d a b c e=some r) (g:St S n n [Y f ([H d]++(X.fl a++(e64.fl b++(e8.fl c++[v64 e]))))]) (A:TB S n) (j:a.length=8) (l:b.length=8) (m:c.length=128):Calls Tryz.prog 154 #[O f 0] n (Ret fun v w=>v=.tuple #[]∧r.2.1.length=8∧r.2.2.1.length=8∧r.2.2.2.1.length=128∧St S n w [Y f ([H r.1]++(X.fl r.2.1++(e64.fl r.2.2.1++(e8.fl r.2.2.2.1++[v64 r.2.2.2.2]))))]):=by
 refine aB 11 Tryz.func154 Z Z Z<|ax [(0,O f 0)] Z ?_
 unfold F.FU at h
 refine R<|V 1 Z<|N (aK Z) Z<|N (ao (k:=0) u157 Z Z qA Z) Z<|N (aw u22 Z Z (g.r 0 Z (Up.get0 Up.o))) Z<|V 1 Z<|Q ?_
 refine gl9 Z h (fun h=>?_) (fun h=>?_)
 ·refine al<|V 1 Z<|have i:=g.pick (os':=[Y f ([H d]++(X.fl a++(e64.fl b++(e8.fl c++[v64 e]))))]++[]) [0] (by decide) Z;J h fun B p h=>aG Z (mq d a b c e p i.f (A.f i) j l m) Z ?_
  rintro _ w ⟨rfl,q,s,t,o⟩
  have g:=i.g o
  refine aE ?_
  cases h
  exact ib Z ⟨Z,q,s,t,g.d [0] Z Z⟩
 refine al<|V 1 Z<|have i:=g.pick (os':=[Y f ([H d]++(X.fl a++(e64.fl b++(e8.fl c++[v64 e]))))]++[]) [0] (by decide) Z;J h fun C u h=>aG Z (mo d a b c e u i.f (A.f i) j l m) Z ?_
 rintro _ w ⟨rfl,x,y,z,o⟩
 have g:=i.g o
 refine aE ?_
 cases h
 exact ib Z ⟨Z,x,y,z,g.d [0] Z Z⟩
theorem jr {B:World} {a1:List UInt8} {C:Value} {n:Nat} {S:List Nat} (t:Int) (u:List UInt32) (x:List UInt64) (y:List UInt8) (E:UInt64) {r:Int×List UInt32×List UInt64×List UInt8×UInt64}
  (h:F.Ew t u x y E a1=some r) (c:St S B B [Y n ([H t]++(X.fl u++(e64.fl x++(e8.fl y++[v64 E]))))]) (hT:TB S B) (ah:u.length=8) (ai:x.length=8) (ak:y.length=128) (aO:RP S B e8 C a1):Calls Tryz.prog 117 #[O n 0,C] B (Ret fun v w=>v=.tuple #[]∧r.2.1.length=8∧r.2.2.1.length=8∧r.2.2.2.1.length=128∧St S B w [Y n ([H r.1]++(X.fl r.2.1++(e64.fl r.2.2.1++(e8.fl r.2.2.2.1++[v64 r.2.2.2.2]))))]):=by
 refine aB 50 Tryz.func117 Z Z Z<|ax [(0,O n 0),(1,C)] Z ?_
 unfold F.Ew at h
 refine R<|V 1 Z<|N (aK Z) Z<|N (ao (k:=0) u157 Z Z qA Z) Z<|N (aw u22 Z Z (c.r 0 Z (Up.get0 Up.o))) Z<|J h fun q aJ h=>bc c Z (ov t aJ ) Z fun w c=>V 1 Z<|Q<|ar<|ax [(0,O n 0),(1,C),(4,H q)] Z ?_
 refine aT (F.ED q) (fun (s:List UInt8×Int×List UInt32×List UInt64×List UInt8×UInt64) L w=>∃(D:Value),L=[(0,O n 0),(1,D),(4,H q)]∧RP S B e8 D s.1∧s.2.2.1.length=8∧s.2.2.2.1.length=8∧s.2.2.2.2.1.length=128∧St S B w [Y n ([H s.2.1]++(X.fl s.2.2.1++(e64.fl s.2.2.2.1++(e8.fl s.2.2.2.2.1++[v64 s.2.2.2.2.2]))))]) ?_ (a1,t,u,x,y,E) ⟨C,Z,aO,ah,ai,ak,c⟩ h
 rintro aV ⟨aH,ab,ac,ad,aW,g⟩ L w aX hI T h z
 try dsimp only at hI
 obtain ⟨D,rfl,o,j,d,b,c⟩:=hI
 unfold F.ED at h
 refine av<|R<|V 1 Z<|N (aC u24 Z (o.b c.fr)) Z<|V 1 Z<|Q ?_
 refine gl9 Z h (fun h=>?_) (fun h=>?_)
 ·refine gl5<|ar<|R<|V 1 Z<|N (aK Z) Z<|N (ao (k:=145) u157 Z Z rx Z) Z<|N (aw u119 Z Z (c.r 0 Z (Up.get0 (Up.m (k:=1) Z (Up.m (k:=8) (bg j Z) (Up.m (k:=8) (bg d Z) (Up.m (k:=128) (bg b Z) Up.last Z) Z) Z) Z)))) Z<|V 1 Z<|N (aD Z (dy u3 u119 q)) Z<|da h fun am h=>N (aj Z Z (fx _ g (UInt64.ofInt q) am)) Z<|N (aD Z (nD u119 u3 (g%(UInt64.ofInt q)))) Z<|a7 h fun aM an h=>N (a9 (v:=H aM) (by rw [←an]; rfl)) Z<|gl2<|V 1 Z<|N (aK Z) Z<|N (ao (k:=17) u157 Z Z vV Z) Z<|V 2 Z<|J h fun aY a h=>N (Ca (e:=e8) u155 sz5 Z Z Z Z b a) Z<|V 1 Z<|bG (xJ (e:=e8) u24 ti5 Z Z Z c (i:=0) Z b (Up.m (k:=1) Z (Up.m (k:=8) (bg j Z) (Up.m (k:=8) (bg d Z) Up.o Z) Z) Z) (o.b c.fr) (by have:=(c7 a).1; omega) (c7 a).1.2.2) Z ?_
  rintro v_q w ⟨hv_q,c⟩
  subst v_q
  obtain ⟨G,l,h⟩:=fN h
  rw [l]at c
  refine a7 h fun f ap h=>N (a9 (v:=H f) (by rw [←ap]; rfl)) Z<|gl2<|V 1 Z<|N (aK Z) Z<|N (ao (k:=145) u157 Z Z rx Z) Z<|N (aw u119 Z Z (c.r 0 Z (Up.get0 (Up.m (k:=1) Z (Up.m (k:=8) (bg j Z) (Up.m (k:=8) (bg d Z) (Up.m (k:=128) (bg (by rw [←l,fh _ _ _ _ (by have:=(c7 a).1; omega) (c7 a).1.2.2]; exact b) Z) Up.last Z) Z) Z) Z)))) Z<|V 1 Z<|N (aD Z (dy u3 u119 f)) Z<|N (aj Z Z (bU _ g (UInt64.ofInt f))) Z<|N (aK Z) Z<|N (ao (k:=145) u157 Z Z rx Z) Z<|bl (dn (m:=1) (xs:=[v64 g]) (xs':=[v64 (g+(UInt64.ofInt f))]) (i:=0) Z cb Z Z Z (Up.m (k:=1) Z (Up.m (k:=8) (bg j Z) (Up.m (k:=8) (bg d Z) (Up.m (k:=128) (bg (by rw [←l,fh _ _ _ _ (by have:=(c7 a).1; omega) (c7 a).1.2.2]; exact b) Z) Up.last Z) Z) Z) Z) Z Z (ep Z) c) fun w c=>gl2<|V 2 Z<|J h fun ae A h=>N (o5 u24 ti5 Z Z (o.b c.fr) A) Z<|V 1 Z<|gl2<|V 5 Z<|Q ?_
  refine gl9 Z h (fun h=>?_) (fun h=>?_)
  ·refine al<|V 1 Z<|have hG:=c.pick (os':=[Y n ([H ab]++(X.fl ac++(e64.fl ad++(e8.fl G++[v64 (g+(UInt64.ofInt f))]))))]++[]) [0] (by decide) Z;J h fun p aq h=>aG Z (og ab ac ad G (g+(UInt64.ofInt f)) aq hG.f (hT.f hG) j d (by rw [←l,fh _ _ _ _ (by have:=(c7 a).1; omega) (c7 a).1.2.2]; exact b)) Z ?_
   rintro _ w ⟨rfl,ay,az,aA,aS⟩
   have c:=hG.g aS
   exact aE<|aF<|bf (bd (T (ae,p.1,p.2.1,p.2.2.1,p.2.2.2.1,p.2.2.2.2) _ _ ⟨slV D e8.sz ((f:Int).toNat) aH.length,Z,(o.g_sll A),ay,az,aA,c⟩ (aL h z)) Z)
  exact cd<|aF<|bf (bd (T (ae,ab,ac,ad,G,g+(UInt64.ofInt f)) _ _ ⟨slV D e8.sz ((f:Int).toNat) aH.length,Z,(o.g_sll A),j,d,(by rw [←l,fh _ _ _ _ (by have:=(c7 a).1; omega) (c7 a).1.2.2]; exact b),c⟩ (aL h z)) Z)
 refine aQ<|au<|au<|have h:=aI h z;aR ?_
 cases h
 exact ib Z ⟨Z,j,d,b,c.d [0] Z Z⟩
end Go.Proofs
