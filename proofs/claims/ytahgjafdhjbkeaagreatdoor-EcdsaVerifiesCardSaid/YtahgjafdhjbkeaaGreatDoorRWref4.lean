import Derived.Test.YtahgjafdhjbkeaaGreatDoorRW0
import Derived.Test.YtahgjafdhjbkeaaGreatDoorGkFman
set_option linter.unusedVariables false
set_option linter.unusedSimpArgs false
set_option linter.unusedSectionVars false
set_option maxRecDepth 4000
namespace Go.Proofs
open Go Go.RowKit Go.Gk
open Go.Gk renaming aa → V, af → J, ag → N, e32 → X, gl3 → Q, gl4 → R, own → U, pB → O, vB → K, vI → H
open Go.Gk.OE renaming bx → Y
theorem tW {b:World} (a0:Int) {r:Int}
  (h:F.Ij a0=some r) :Calls Tryz.prog 25 #[H a0] b (Ret fun v w=>v=H r∧St [] b w []):=by
 refine aB 10 Tryz.func25 Z Z Z<|have a:=St.k b;ax [(0,H a0)] Z ?_
 unfold F.Ij at h
 refine R<|V 1 Z<|gl1<|R<|V 1 Z<|Q<|ar<|R<|V 2 Z<|Q ?_
 refine gl9 Z h (fun h=>?_) (fun h=>?_)
 ·refine R<|V 1 Z<|Q<|az<|bA<|aW ?_
  cases h
  exact ay Z Z ⟨Z,a⟩
 refine R<|V 2 Z<|Q ?_
 refine gl9 Z h (fun h=>?_) (fun h=>?_)
 ·refine R<|V 1 Z<|Q<|az<|bA<|aW ?_
  cases h
  exact ay Z Z ⟨Z,a⟩
 refine R<|V 2 Z<|Q ?_
 refine gl9 Z h (fun h=>?_) (fun h=>?_)
 ·refine R<|V 1 Z<|Q<|az<|bA<|aW ?_
  cases h
  exact ay Z Z ⟨Z,a⟩
 refine cd<|aF<|ak<|R<|V 1 Z<|Q<|az ?_
 cases h
 exact ay Z Z ⟨Z,a⟩
theorem mi {m:World} {a0:List UInt8} {f:Value} (a1:Int) {r:List UInt8}
  (h:F.Gc a0 a1=some r) (y:RP [] m e8 f a0):Calls Tryz.prog 163 #[f,H a1] m (Ret fun v w=>St [] m w [U e8 v r]):=by
 refine aB 43 Tryz.func163 Z Z Z<|have a:=St.k m;ax [(0,f),(1,H a1)] Z ?_
 unfold F.Gc at h
 refine R<|V 1 Z<|gl2<|V 1 Z<|gl2<|V 2 Z<|J h fun an B h=>bG (jb u24 ti5 Z Z Z a (y.b a.fr) B) Z fun ao w a=>V 1 Z<|gl2<|V 1 Z<|bG (cp (e:=e8) (l:=[128]) (vs:=[v8 128]) u24 ti5 Z Z Z Z (by decide) (by decide) a) Z fun ap w a=>J h fun T C h=>bG (dG u24 ti5 Z Z Z a (i:=1) Z (a.ro 0 Z) C) Z fun z w a=>V 1 Z<|gl1<|ar<|ax [(0,f),(1,H a1),(5,z)] Z ?_
 refine aT (F.Fs a0 a1) (fun (s:List UInt8) L w=>∃(d:Value),L=[(0,f),(1,H a1),(5,d)]∧St [] m w [U e8 d s]) ?_ T ⟨z,Z,(a.d [1] Z Z)⟩ h
 rintro ab A L w ac n o h j
 try dsimp only at n
 obtain ⟨d,rfl,a⟩:=n
 unfold F.Fs at h
 refine av<|R<|V 1 Z<|N (aC u24 Z (a.ro 0 Z)) Z<|V 1 Z<|da h fun p h=>N (aj Z Z (fW _ (A.length:Int) a1 p)) Z<|V 3 Z<|Q ?_
 refine gl9 Z h (fun h=>?_) (fun h=>?_)
 ·exact gl5<|ar<|al<|V 1 Z<|bG (cp (e:=e8) (l:=[0]) (vs:=[v8 0]) u24 ti5 Z Z Z Z (by decide) (by decide) a) Z fun ad w a=>J h fun D q h=>bG (dG u24 ti5 Z Z Z a (i:=1) Z (a.ro 0 Z) q) Z fun E w a=>V 1 Z<|aE<|aF<|bf (bd (o D _ _ ⟨E,Z,(a.d [1] Z Z)⟩ (aL h j)) Z)
 refine aQ<|au<|au<|have h:=aI h j;aR<|ak<|R<|V 1 Z<|N (aC u24 Z (y.b a.fr)) Z<|N (aD Z (dy u3 u119 (a0.length:Int))) Z<|N (aj Z Z (gx _ (UInt64.ofInt (a0.length:Int)) 8)) Z<|a7 h fun b t h=>N (a9 (v:=v64 b) (by rw [←t]; rfl)) Z<|gl1<|R<|V 1 Z<|Q<|ar<|ax [(5,d),(6,v64 b),(7,H 7)] Z ?_
 refine aT (F.Fn b) (fun (s:List UInt8×Int) L w=>∃(g:Value),L=[(5,g),(6,v64 b),(7,H s.2)]∧St [] m w [U e8 g s.1]) ?_ (A,7) ⟨d,Z,a⟩ h
 rintro ae ⟨ah,c⟩ L w ai n u h k
 try dsimp only at n
 obtain ⟨g,rfl,a⟩:=n
 unfold F.Fn at h
 refine av<|R<|V 2 Z<|Q ?_
 refine gl9 Z h (fun h=>?_) (fun h=>?_)
 ·exact gl5<|av<|ar<|al<|V 3 Z<|N (aj Z Z (dR _ 8 c)) Z<|N (aD Z (dy u3 u87 (wI (8*c)))) Z<|N (aj Z Z (cc _ b (UInt64.ofInt (wI (8*c))))) Z<|N (aj Z Z (ej _ (aM b ((UInt64.ofInt (wI (8*c))).toNat)) 255)) Z<|N (aD Z (kY u119 Tryz.underlying5 ((aM b ((UInt64.ofInt (wI (8*c))).toNat)) &&& 255))) Z<|bG (cp (e:=e8) (l:=[((aM b ((UInt64.ofInt (wI (8*c))).toNat)) &&& 255).toUInt8]) (vs:=[v8 (((aM b ((UInt64.ofInt (wI (8*c))).toNat)) &&& 255).toUInt8)]) u24 ti5 Z Z Z Z (by decide) (by decide) a) Z fun am w a=>J h fun G x h=>bG (dG u24 ti5 Z Z Z a (i:=1) Z (a.ro 0 Z) x) Z fun S w a=>V 1 Z<|aE<|aF<|ak<|al<|V 3 Z<|aE<|bf (bd (u (G,wI (c - 1)) _ _ ⟨S,Z,(a.d [1] Z Z)⟩ (aL h k)) Z)
 refine aQ<|au<|au<|have h:=aI h k;aR<|ak<|R<|V 2 Z<|Q<|az ?_
 cases h
 exact ay Z Z (a.d [0] Z Z)
theorem dL {a:World} (a0:UInt32) (a1:Int) {r:UInt32}
  (h:F.C0 a0 a1=some r) :Calls Tryz.prog 164 #[v32 a0,H a1] a (Ret fun v w=>v=v32 r∧St [] a w []):=by
 refine aB 15 Tryz.func164 Z Z Z<|have b:=St.k a;ax [(0,v32 a0),(1,H a1)] Z ?_
 unfold F.C0 at h
 refine R<|V 1 Z<|gl2<|V 2 Z<|N (aD Z (dy u3 u87 a1)) Z<|N (aj Z Z (cL _ a0 (UInt64.ofInt a1))) Z<|V 3 Z<|N (aD Z (dy u3 u87 (wI (32 - a1)))) Z<|N (aj Z Z (d9 _ a0 (UInt64.ofInt (wI (32 - a1))))) Z<|N (aj Z Z (eo _ (bu a0 ((UInt64.ofInt a1).toNat)) (bN a0 ((UInt64.ofInt (wI (32 - a1))).toNat)))) Z<|V 1 Z<|Q<|az ?_
 cases h
 exact ay Z Z ⟨Z,b⟩
theorem rR {z:World} {a0:List UInt8} {cd:Value} {r:List UInt8}
  (h:F.Hw a0=some r) (hT:TB [] z) (cX:RP [] z e8 cd a0):Calls Tryz.prog 131 #[cd] z (Ret fun v w=>St [] z w [U e8 v r]):=by
 refine aB 231 Tryz.func131 Z Z Z<|have a:=St.k z;ax [(0,cd)] Z ?_
 unfold F.Hw at h
 refine R<|V 1 Z<|gl2<|N (fD (us:=X.fl F.Db) u154 Z kj (bg (show F.Db.length=8 from Z) Z) Z (hT.ref4_start256.cells a.fr)) Z<|bh (ba (cs:=X.fl (List.replicate 8 0)) zM (by kernel_rfl) a) Z fun f w a=>bl (dn (m:=8) (xs:=X.fl (List.replicate 8 0)) (xs':=X.fl F.Db) (i:=0) Z kj Z Z Z Up.last (bg List.length_replicate Z) (bg (show F.Db.length=8 from Z) Z) gc a) fun w a=>gl2<|V 1 Z<|J h fun y cJ h=>aU a Z (mi 64 cJ (cX.b a.fr).rp) Z fun k w a=>V 1 Z<|gl1<|R<|V 1 Z<|Q<|ar<|ax [(3,O f 0),(4,k),(5,H 0)] Z ?_
 refine aT (F.FS y) (fun (s:Int×List UInt32) L w=>L=[(3,O f 0),(4,k),(5,H s.1)]∧s.2.length=8∧St [] z w [Y f (X.fl s.2),U e8 k y]) ?_ (0,F.Db) ⟨Z,(show F.Db.length=8 from Z),(a.d [1,0] Z Z)⟩ h
 rintro cZ ⟨A,q⟩ L w c2 E cl h ce
 try dsimp only at E
 obtain ⟨rfl,B,a⟩:=E
 unfold F.FS at h
 refine av<|R<|V 2 Z<|N (aC u24 Z (a.ro 1 Z)) Z<|V 1 Z<|Q ?_
 refine gl9 Z h (fun h=>?_) (fun h=>?_)
 ·refine gl5<|av<|ar<|R<|bh (ba (cs:=X.fl (List.replicate 64 0)) Ah (by kernel_rfl) a) Z fun p w a=>gl1<|R<|V 1 Z<|Q<|ar<|ax [(3,O f 0),(4,k),(5,H A),(6,O p 0),(7,H 0)] Z ?_
  refine aT (F.Ff y A q) (fun (s:Int×List UInt32) L w=>L=[(3,O f 0),(4,k),(5,H A),(6,O p 0),(7,H s.1)]∧s.2.length=64∧St [] z w [Y f (X.fl q),U e8 k y,Y p (X.fl s.2)]) ?_ (0,(List.replicate 64 0)) ⟨Z,List.length_replicate,(a.d [1,2,0] Z Z)⟩ h
  rintro c3 ⟨aW,G⟩ L w cK E cm h bs
  try dsimp only at E
  obtain ⟨rfl,t,a⟩:=E
  unfold F.Ff at h
  refine av<|R<|V 2 Z<|Q ?_
  refine gl9 Z h (fun h=>?_) (fun h=>?_)
  ·refine gl5 ?_
   refine aZ (r:=cK) (fun (g:List UInt32) L w=>L=[(3,O f 0),(4,k),(5,H A),(6,O p 0),(7,H aW)]∧g.length=64∧St [] z w [Y f (X.fl q),U e8 k y,Y p (X.fl g)]) (F.FQ aW) ?_ ?_
   rotate_left
   ·intro bt
    refine ar<|av<|R<|V 2 Z<|Q ?_
    refine gl9 Z h (fun h=>?_) (fun h=>?_)
    ·refine R<|V 2 Z<|N (aj Z Z (dR _ 4 aW)) Z<|V 1 Z<|a7 h fun cM cn h=>N (a9 (v:=H cM) (by rw [←cn]; rfl)) Z<|gl1<|de (fun w'=>St [] z w' [Y f (X.fl q),U e8 k y,Y p (X.fl G)]) (fun i=>!([31].contains i)) bR (fun _ _ _ u=>u.2) (fun _ _ u=>u) (by kernel_rfl)<|have a:=a.drew;show lxE _ _ _ _ _ _ _ [0,1,2,3,4,5,6,7,8,9,10,11,12,13,14,15,16,17,18,19,20,21,22,23,24,25,26,27,28,29,30,31] _ _ from an 3 Z a<|J h fun S bv h=>ai a Z Z (fun w b=>bk u24 ti5 Z Z (b.ro 1 Z) bv) Z<|ai a Z Z (fun w b=>a8 Tryz.underlying5 Z Z (b.ro 1 Z) bv Z) Z<|ai a Z Z (fun w b=>aD Z (eM Tryz.underlying5 u38 S)) Z<|ai a Z Z (fun w b=>aj Z Z (d9 _ S.toUInt32 24)) Z<|an 3 Z a<|J h fun T bw h=>ai a Z Z (fun w b=>bk u24 ti5 Z Z (b.ro 1 Z) bw) Z<|ai a Z Z (fun w b=>a8 Tryz.underlying5 Z Z (b.ro 1 Z) bw Z) Z<|ai a Z Z (fun w b=>aD Z (eM Tryz.underlying5 u38 T)) Z<|ai a Z Z (fun w b=>aj Z Z (d9 _ T.toUInt32 16)) Z<|ai a Z Z (fun w b=>aj Z Z (eo _ (bN S.toUInt32 24) (bN T.toUInt32 16))) Z<|an 3 Z a<|J h fun aq bz h=>ai a Z Z (fun w b=>bk u24 ti5 Z Z (b.ro 1 Z) bz) Z ?_
     refine ai a Z Z (fun w b=>a8 Tryz.underlying5 Z Z (b.ro 1 Z) bz Z) Z<|ai a Z Z (fun w b=>aD Z (eM Tryz.underlying5 u38 aq)) Z<|ai a Z Z (fun w b=>aj Z Z (d9 _ aq.toUInt32 8)) Z<|ai a Z Z (fun w b=>aj Z Z (eo _ ((bN S.toUInt32 24) ||| (bN T.toUInt32 16)) (bN aq.toUInt32 8))) Z<|an 3 Z a<|J h fun bi bA h=>ai a Z Z (fun w b=>bk u24 ti5 Z Z (b.ro 1 Z) bA) Z<|ai a Z Z (fun w b=>a8 Tryz.underlying5 Z Z (b.ro 1 Z) bA Z) Z<|ai a Z Z (fun w b=>aD Z (eM Tryz.underlying5 u38 bi)) Z<|ai a Z Z (fun w b=>aj Z Z (eo _ (((bN S.toUInt32 24) ||| (bN T.toUInt32 16)) ||| (bN aq.toUInt32 8)) bi.toUInt32)) Z<|J h fun c4 bB h=>ai a Z Z (fun w b=>aY u165 cA Z Z (aV bB t)) Z<|fU a Z Z (dn (m:=1) Z cA Z Z Z (Up.elt (t':=((((bN S.toUInt32 24) ||| (bN T.toUInt32 16)) ||| (bN aq.toUInt32 8)) ||| bi.toUInt32)) Up.last bB Z Z) Z Z (ep Z) a (i:=2)) fun w a=>a7 h fun cN bC h=>?_
     rw [bC]at a
     exact bn I<|ak<|aQ<|au<|aR<|ak<|aH (bt cN _ _ ⟨Z,(by rw [←bC,List.length_set]; exact t),a⟩ h) Z
    refine gl6<|V 2 Z<|J h fun C bD h=>N (aY u165 cA Z Z (aV bD t)) Z<|N (aw u38 Z Z (a.r 2 Z (Up.elr Up.last bD Z))) Z<|V 1 Z<|gl2<|V 2 Z<|J h fun ab bE h=>N (aY u165 cA Z Z (aV bE t)) Z<|N (aw u38 Z Z (a.r 2 Z (Up.elr Up.last bE Z))) Z<|V 1 Z<|Q<|de (fun w'=>St [] z w' [Y f (X.fl q),U e8 k y,Y p (X.fl G)]) (fun i=>!([6,8,20,22,29].contains i)) bR (fun _ _ _ u=>u.2) (fun _ _ u=>u) (by kernel_rfl)<|have a:=a.drew;show lxE _ _ _ _ _ _ _ [0,1,2,3,4,5,6,7,8,9,10,11,12,13,14,15,16,17,18,19,20,21,22,23,24,25,26,27,28,29] _ _ from an 3 Z a<|J h fun a1 bF h=>ai a Z Z (fun w b=>aY u165 cA Z Z (aV bF t)) Z<|ai a Z Z (fun w b=>aw u38 Z Z (b.r 2 Z (Up.elr Up.last bF Z))) Z<|an 1 Z a<|J h fun ac co h=>bb a Z Z (by kernel_rfl) Z (dL C 7 co ) Z ?_
    rintro _ w ⟨rfl,n⟩
    have a:=a.e n
    refine an 1 Z a<|J h fun ad cq h=>bb a Z Z (by kernel_rfl) Z (dL C 18 cq ) Z ?_
    rintro _ w ⟨rfl,n⟩
    have a:=a.e n
    refine ai a Z Z (fun w b=>aj Z Z (dq _ ac ad)) Z<|an 1 Z a<|ai a Z Z (fun w b=>aj Z Z (cL _ C 3)) Z<|ai a Z Z (fun w b=>aj Z Z (dq _ (ac ^^^ ad) (bu C 3))) Z<|ai a Z Z (fun w b=>aj Z Z (cT _ a1 ((ac ^^^ ad) ^^^ (bu C 3)))) Z<|an 2 Z a<|J h fun bj bG h=>ai a Z Z (fun w b=>aY u165 cA Z Z (aV bG t)) Z<|ai a Z Z (fun w b=>aw u38 Z Z (b.r 2 Z (Up.elr Up.last bG Z))) Z<|ai a Z Z (fun w b=>aj Z Z (cT _ (a1+((ac ^^^ ad) ^^^ (bu C 3))) bj)) Z<|an 1 Z a<|J h fun a2 cr h=>bb a Z Z (by kernel_rfl) Z (dL ab 17 cr ) Z ?_
    rintro _ w ⟨rfl,n⟩
    have a:=a.e n
    refine an 1 Z a<|J h fun a3 ct h=>bb a Z Z (by kernel_rfl) Z (dL ab 19 ct ) Z ?_
    rintro _ w ⟨rfl,n⟩
    have a:=a.e n
    refine ai a Z Z (fun w b=>aj Z Z (dq _ a2 a3)) Z<|an 1 Z a<|ai a Z Z (fun w b=>aj Z Z (cL _ ab 10)) Z<|ai a Z Z (fun w b=>aj Z Z (dq _ (a2 ^^^ a3) (bu ab 10))) Z<|ai a Z Z (fun w b=>aj Z Z (cT _ ((a1+((ac ^^^ ad) ^^^ (bu C 3)))+bj) ((a2 ^^^ a3) ^^^ (bu ab 10)))) Z<|J h fun c5 bH h=>ai a Z Z (fun w b=>aY u165 cA Z Z (aV bH t)) Z<|fU a Z Z (dn (m:=1) Z cA Z Z Z (Up.elt (t':=(((a1+((ac ^^^ ad) ^^^ (bu C 3)))+bj)+((a2 ^^^ a3) ^^^ (bu ab 10)))) Up.last bH Z Z) Z Z (ep Z) a (i:=2)) fun w a=>a7 h fun cO bI h=>?_
    rw [bI]at a
    exact bn I<|aF<|ak<|aH (bt cO _ _ ⟨Z,(by rw [←bI,List.length_set]; exact t),a⟩ h) Z
   rintro cP L w hJ h
   try dsimp only at hJ
   obtain ⟨rfl,cu,a⟩:=hJ
   unfold F.FQ at h
   exact al<|V 3 Z<|aE<|bf (bd (cm (wI (aW+1),cP) _ _ ⟨Z,cu,a⟩ (aL h bs)) Z)
  refine aQ<|au<|au<|have h:=aI h bs;aR<|ak<|R<|N (fD (us:=X.fl q) u154 Z kj (bg B Z) Z (a.bxgs0 0 Z Up.last)) Z<|bh (ba (cs:=X.fl (List.replicate 8 0)) zM (by kernel_rfl) a) Z fun x w a=>bl (dn (m:=8) (xs:=X.fl (List.replicate 8 0)) (xs':=X.fl q) (i:=0) Z kj Z Z Z Up.last (bg List.length_replicate Z) (bg B Z) gc a) fun w a=>gl1<|R<|V 1 Z<|Q<|ar<|ax [(3,O f 0),(4,k),(5,H A),(6,O p 0),(11,O x 0),(12,H 0)] Z ?_
  refine aT (F.Hd q G A) (fun (s:Int×List UInt32) L w=>L=[(3,O f 0),(4,k),(5,H A),(6,O p 0),(11,O x 0),(12,H s.1)]∧s.2.length=8∧St [] z w [Y f (X.fl q),U e8 k y,Y p (X.fl G),Y x (X.fl s.2)]) ?_ (0,q) ⟨Z,B,(a.d [1,2,3,0] Z Z)⟩ h
  rintro c6 ⟨cQ,ae⟩ L w c7 E cv h bJ
  try dsimp only at E
  obtain ⟨rfl,c,a⟩:=E
  unfold F.Hd at h
  refine av<|R<|V 2 Z<|Q ?_
  refine gl9 Z h (fun h=>?_) (fun h=>?_)
  ·refine gl5<|av<|ar<|R<|J h fun j bK h=>N (aY u154 cA Z Z (aV bK c)) Z<|N (aw u38 Z Z (a.r 3 Z (Up.elr Up.last bK Z))) Z<|V 1 Z<|gl2<|J h fun d bL h=>N (aY u154 cA Z Z (aV bL c)) Z<|N (aw u38 Z Z (a.r 3 Z (Up.elr Up.last bL Z))) Z<|V 1 Z<|gl1<|aX (fun w'=>St [] z w' [Y f (X.fl q),U e8 k y,Y p (X.fl G),Y x (X.fl ae)]) (fun i=>!([3,5,8].contains i)) bR (fun _ _ _ u=>u.2) (fun _ _ u=>u) (by kernel_rfl)<|have a:=a.drew;show lxE _ _ _ _ _ _ _ [0,1,2,3,4,5,6,7,8,9,10,11,12,13,14,15,16,17,18,19,20,21,22,23,24,25,26,27,28,29,30] _ _ from J h fun a4 bM h=>ai a Z Z (fun w b=>aY u154 cA Z Z (aV bM c)) Z<|ai a Z Z (fun w b=>aw u38 Z Z (b.r 3 Z (Up.elr Up.last bM Z))) Z<|an 1 Z a<|J h fun ah cw h=>bb a Z Z (by kernel_rfl) Z (dL d 6 cw ) Z ?_
   rintro _ w ⟨rfl,n⟩
   have a:=a.e n
   refine an 1 Z a<|J h fun am cx h=>bb a Z Z (by kernel_rfl) Z (dL d 11 cx ) Z ?_
   rintro _ w ⟨rfl,n⟩
   have a:=a.e n
   refine ai a Z Z (fun w b=>aj Z Z (dq _ ah am)) Z<|an 1 Z a<|J h fun aA cy h=>bb a Z Z (by kernel_rfl) Z (dL d 25 cy ) Z ?_
   rintro _ w ⟨rfl,n⟩
   have a:=a.e n
   refine ai a Z Z (fun w b=>aj Z Z (dq _ (ah ^^^ am) aA)) Z<|ai a Z Z (fun w b=>aj Z Z (cT _ a4 ((ah ^^^ am) ^^^ aA))) Z<|an 1 Z a<|J h fun aG bO h=>ai a Z Z (fun w b=>aY u154 cA Z Z (aV bO c)) Z<|ai a Z Z (fun w b=>aw u38 Z Z (b.r 3 Z (Up.elr Up.last bO Z))) Z<|ai a Z Z (fun w b=>aj Z Z (eB _ d aG)) Z<|an 1 Z a<|ai a Z Z (fun w b=>i9 Z (pU d)) Z<|J h fun aJ bP h=>ai a Z Z (fun w b=>aY u154 cA Z Z (aV bP c)) Z<|ai a Z Z (fun w b=>aw u38 Z Z (b.r 3 Z (Up.elr Up.last bP Z))) Z<|ai a Z Z (fun w b=>aj Z Z (eB _ (~~~ d) aJ)) Z<|ai a Z Z (fun w b=>aj Z Z (dq _ (d &&& aG) ((~~~ d) &&& aJ))) Z<|ai a Z Z (fun w b=>aj Z Z (cT _ (a4+((ah ^^^ am) ^^^ aA)) ((d &&& aG) ^^^ ((~~~ d) &&& aJ)))) Z<|an 1 Z a<|J h fun cf bQ h=>ai a Z Z (fun w b=>aY u165 cA Z Z (aV bQ (show F.Ds.length=64 from Z))) Z<|ai a Z Z (fun w b=>aw u38 Z Z (hT.ref4_k256.cell b.fr bQ Z)) Z<|ai a Z Z (fun w b=>aj Z Z (cT _ ((a4+((ah ^^^ am) ^^^ aA))+((d &&& aG) ^^^ ((~~~ d) &&& aJ))) cf)) Z<|an 1 Z a ?_
   refine J h fun cR bS h=>ai a Z Z (fun w b=>aY u165 cA Z Z (aV bS t)) Z<|ai a Z Z (fun w b=>aw u38 Z Z (b.r 2 Z (Up.elr Up.last bS Z))) Z<|ai a Z Z (fun w b=>aj Z Z (cT _ (((a4+((ah ^^^ am) ^^^ aA))+((d &&& aG) ^^^ ((~~~ d) &&& aJ)))+cf) cR)) Z<|a7 h fun o cz h=>ai a Z Z (fun w b=>a9 (v:=v32 o) (by rw [←cz]; rfl)) Z<|bn a<|ak<|av<|aX (fun w'=>St [] z w' [Y f (X.fl q),U e8 k y,Y p (X.fl G),Y x (X.fl ae)]) (fun i=>!([1,3,6].contains i)) bR (fun _ _ _ u=>u.2) (fun _ _ u=>u) (by kernel_rfl)<|have a:=a.drew;show lxE _ _ _ _ _ _ _ [0,1,2,3,4,5,6,7,8,9,10,11,12,13,14,15,16,17,18,19,20,21,22,23,24] _ _ from an 1 Z a<|J h fun bm cB h=>bb a Z Z (by kernel_rfl) Z (dL j 2 cB ) Z ?_
   rintro _ w ⟨rfl,n⟩
   have a:=a.e n
   refine an 1 Z a<|J h fun bo cC h=>bb a Z Z (by kernel_rfl) Z (dL j 13 cC ) Z ?_
   rintro _ w ⟨rfl,n⟩
   have a:=a.e n
   refine ai a Z Z (fun w b=>aj Z Z (dq _ bm bo)) Z<|an 1 Z a<|J h fun cg cD h=>bb a Z Z (by kernel_rfl) Z (dL j 22 cD ) Z ?_
   rintro _ w ⟨rfl,n⟩
   have a:=a.e n
   refine ai a Z Z (fun w b=>aj Z Z (dq _ (bm ^^^ bo) cg)) Z<|an 1 Z a<|J h fun a5 bU h=>ai a Z Z (fun w b=>aY u154 cA Z Z (aV bU c)) Z<|ai a Z Z (fun w b=>aw u38 Z Z (b.r 3 Z (Up.elr Up.last bU Z))) Z<|ai a Z Z (fun w b=>aj Z Z (eB _ j a5)) Z<|an 1 Z a<|J h fun a6 bV h=>ai a Z Z (fun w b=>aY u154 cA Z Z (aV bV c)) Z<|ai a Z Z (fun w b=>aw u38 Z Z (b.r 3 Z (Up.elr Up.last bV Z))) Z<|ai a Z Z (fun w b=>aj Z Z (eB _ j a6)) Z<|ai a Z Z (fun w b=>aj Z Z (dq _ (j &&& a5) (j &&& a6))) Z<|J h fun bp bW h=>ai a Z Z (fun w b=>aY u154 cA Z Z (aV bW c)) Z<|ai a Z Z (fun w b=>aw u38 Z Z (b.r 3 Z (Up.elr Up.last bW Z))) Z<|J h fun bq bX h=>ai a Z Z (fun w b=>aY u154 cA Z Z (aV bX c)) Z<|ai a Z Z (fun w b=>aw u38 Z Z (b.r 3 Z (Up.elr Up.last bX Z))) Z<|ai a Z Z (fun w b=>aj Z Z (eB _ bp bq)) Z<|ai a Z Z (fun w b=>aj Z Z (dq _ ((j &&& a5) ^^^ (j &&& a6)) (bp &&& bq))) Z<|ai a Z Z (fun w b=>aj Z Z (cT _ ((bm ^^^ bo) ^^^ cg) (((j &&& a5) ^^^ (j &&& a6)) ^^^ (bp &&& bq)))) Z ?_
   refine a7 h fun D cE h=>ai a Z Z (fun w b=>a9 (v:=v32 D) (by rw [←cE]; rfl)) Z<|bn a<|ak<|al<|V 2 Z<|N (aj Z Z (cT _ o D)) Z<|V 1 Z<|J h fun aK bY h=>N (aY u154 cA Z Z (aV bY c)) Z<|N (aw u38 Z Z (a.r 3 Z (Up.elr Up.last bY Z))) Z<|J h fun aM bZ h=>N (aY u154 cA Z Z (aV bZ c)) Z<|N (aw u38 Z Z (a.r 3 Z (Up.elr Up.last bZ Z))) Z<|J h fun ao b0 h=>N (aY u154 cA Z Z (aV b0 c)) Z<|N (aw u38 Z Z (a.r 3 Z (Up.elr Up.last b0 Z))) Z<|V 1 Z<|N (aj Z Z (cT _ ao o)) Z<|V 1 Z<|J h fun aN b1 h=>N (aY u154 cA Z Z (aV b1 c)) Z<|N (aw u38 Z Z (a.r 3 Z (Up.elr Up.last b1 Z))) Z<|J h fun aO b2 h=>N (aY u154 cA Z Z (aV b2 c)) Z<|N (aw u38 Z Z (a.r 3 Z (Up.elr Up.last b2 Z))) Z<|N (bT (vs:=[(0,v32 (o+D),[v32 (o+D)]),(1,v32 j,[v32 j]),(2,v32 aK,[v32 aK]),(3,v32 aM,[v32 aM]),(4,v32 (ao+o),[v32 (ao+o)]),(5,v32 d,[v32 d]),(6,v32 aN,[v32 aN]),(7,v32 aO,[v32 aO])]) (cells:=[v32 (o+D),v32 j,v32 aK,v32 aM,v32 (ao+o),v32 d,v32 aN,v32 aO]) Z xB ⟨Z,Z,Z,Z,Z,Z,Z,Z,I⟩ (by kernel_rfl)) Z ?_
   exact bl (dn (m:=8) (xs:=X.fl ae) (xs':=X.fl ([o+D,j,aK,aM,ao+o,d,aN,aO]:List UInt32)) (i:=3) Z kj Z Z Z Up.last (bg c Z) (bg Z Z) gc a) fun w a=>aE<|aF<|ak<|al<|V 3 Z<|aE<|bf (bd (cv (wI (cQ+1),([o+D,j,aK,aM,ao+o,d,aN,aO]:List UInt32)) _ _ ⟨Z,Z,a⟩ (aL h bJ)) Z)
  refine aQ<|au<|au<|have h:=aI h bJ;aR<|ak<|R<|V 1 Z<|Q<|ar<|ax [(3,O f 0),(4,k),(5,H A),(11,O x 0),(17,H 0)] Z ?_
  refine aT (F.E0 A ae) (fun (s:Int×List UInt32) L w=>L=[(3,O f 0),(4,k),(5,H A),(11,O x 0),(17,H s.1)]∧s.2.length=8∧St [] z w [Y f (X.fl s.2),U e8 k y,Y x (X.fl ae)]) ?_ (0,q) ⟨Z,B,(a.d [0,1,3] Z Z)⟩ h
  rintro c8 ⟨cS,ch⟩ L w c9 E cF h b3
  try dsimp only at E
  obtain ⟨rfl,ap,a⟩:=E
  unfold F.E0 at h
  refine av<|R<|V 2 Z<|Q ?_
  refine gl9 Z h (fun h=>?_) (fun h=>?_)
  ·refine gl5<|av<|ar<|de (fun w'=>St [] z w' [Y f (X.fl ch),U e8 k y,Y x (X.fl ae)]) (fun i=>!([9].contains i)) bR (fun _ _ _ u=>u.2) (fun _ _ u=>u) (by kernel_rfl)<|have a:=a.drew;show lxE _ _ _ _ _ _ _ [0,1,2,3,4,5,6,7,8,9] _ _ from an 2 Z a<|J h fun ci b4 h=>ai a Z Z (fun w b=>aY u154 cA Z Z (aV b4 ap)) Z<|ai a Z Z (fun w b=>aw u38 Z Z (b.r 0 Z (Up.elr Up.last b4 Z))) Z<|an 1 Z a<|J h fun cj b5 h=>ai a Z Z (fun w b=>aY u154 cA Z Z (aV b5 c)) Z<|ai a Z Z (fun w b=>aw u38 Z Z (b.r 2 Z (Up.elr Up.last b5 Z))) Z<|ai a Z Z (fun w b=>aj Z Z (cT _ ci cj)) Z<|J h fun da b6 h=>ai a Z Z (fun w b=>aY u154 cA Z Z (aV b6 ap)) Z<|fU a Z Z (dn (m:=1) Z cA Z Z Z (Up.elt (t':=(ci+cj)) Up.last b6 Z Z) Z Z (ep Z) a (i:=0)) fun w a=>a7 h fun cU b7 h=>?_
   rw [b7]at a
   exact bn I<|aF<|ak<|al<|V 3 Z<|aE<|bf (bd (cF (wI (cS+1),cU) _ _ ⟨Z,(by rw [←b7,List.length_set]; exact ap),a⟩ (aL h b3)) Z)
  exact aQ<|au<|au<|have h:=aI h b3;aR<|aF<|ak<|al<|V 3 Z<|aE<|bf (bd (cl (wI (A+64),ch) _ _ ⟨Z,ap,(a.d [0,1] Z Z)⟩ (aL h ce)) Z)
 refine aQ<|au<|au<|have h:=aI h ce;aR<|ak<|R<|V 1 Z<|gl1<|R<|V 1 Z<|Q<|ar<|ax [(3,O f 0),(18,.slice none 0 0),(19,H 0)] Z ?_
 refine aT (F.FM q) (fun (s:List UInt8×Int) L w=>∃(br:Value),L=[(3,O f 0),(18,br),(19,H s.2)]∧St [] z w [U e8 br s.1,Y f (X.fl q)]) ?_ ([],0) ⟨.slice none 0 0,Z,((a.nil e8).d [0,1] Z Z)⟩ h
 rintro c0 ⟨db,cV⟩ L w dc E cG h b8
 try dsimp only at E
 obtain ⟨br,rfl,a⟩:=E
 unfold F.FM at h
 refine av<|R<|V 2 Z<|Q ?_
 refine gl9 Z h (fun h=>?_) (fun h=>?_)
 ·refine gl5<|av<|ar<|have hsh0:=(a.ro 0 Z).shp;aX (fun w'=>St [] z w' [Y f (X.fl q)]) (fun i=>!([23,24].contains i)) bR (fun _ _ _ u=>u.2) (fun _ _ u=>u) (by kernel_rfl)<|have a:=a.drew;show lxE _ _ _ _ _ _ _ [0,1,2,3,4,5,6,7,8,9,10,11,12,13,14,15,16,17,18,19,20,21,22,23,24,25] _ _ from an 2 Z (a.d [1] Z Z)<|J h fun bc b9 h=>ai (a.d [1] Z Z) Z Z (fun w b=>aY u154 cA Z Z (aV b9 B)) Z<|ai (a.d [1] Z Z) Z Z (fun w b=>aw u38 Z Z (b.r 0 Z (Up.elr Up.last b9 Z))) Z<|ai (a.d [1] Z Z) Z Z (fun w b=>aj Z Z (cL _ bc 24)) Z<|ai (a.d [1] Z Z) Z Z (fun w b=>aD Z (fG u38 Tryz.underlying5 (bu bc 24))) Z<|an 1 Z (a.d [1] Z Z)<|J h fun aP ca h=>ai (a.d [1] Z Z) Z Z (fun w b=>aY u154 cA Z Z (aV ca B)) Z<|ai (a.d [1] Z Z) Z Z (fun w b=>aw u38 Z Z (b.r 0 Z (Up.elr Up.last ca Z))) Z<|ai (a.d [1] Z Z) Z Z (fun w b=>aj Z Z (cL _ aP 16)) Z<|ai (a.d [1] Z Z) Z Z (fun w b=>aj Z Z (eB _ (bu aP 16) 255)) Z<|ai (a.d [1] Z Z) Z Z (fun w b=>aD Z (fG u38 Tryz.underlying5 ((bu aP 16) &&& 255))) Z<|an 1 Z (a.d [1] Z Z)<|J h fun aS cb h=>ai (a.d [1] Z Z) Z Z (fun w b=>aY u154 cA Z Z (aV cb B)) Z ?_
  refine ai (a.d [1] Z Z) Z Z (fun w b=>aw u38 Z Z (b.r 0 Z (Up.elr Up.last cb Z))) Z<|ai (a.d [1] Z Z) Z Z (fun w b=>aj Z Z (cL _ aS 8)) Z<|ai (a.d [1] Z Z) Z Z (fun w b=>aj Z Z (eB _ (bu aS 8) 255)) Z<|ai (a.d [1] Z Z) Z Z (fun w b=>aD Z (fG u38 Tryz.underlying5 ((bu aS 8) &&& 255))) Z<|an 1 Z (a.d [1] Z Z)<|J h fun be cc h=>ai (a.d [1] Z Z) Z Z (fun w b=>aY u154 cA Z Z (aV cc B)) Z<|ai (a.d [1] Z Z) Z Z (fun w b=>aw u38 Z Z (b.r 0 Z (Up.elr Up.last cc Z))) Z<|ai (a.d [1] Z Z) Z Z (fun w b=>aj Z Z (eB _ be 255)) Z<|ai (a.d [1] Z Z) Z Z (fun w b=>aD Z (fG u38 Tryz.underlying5 (be &&& 255))) Z<|wh (a.d [1] Z Z) Z Z (cp (e:=e8) (l:=[(bu bc 24).toUInt8,((bu aP 16) &&& 255).toUInt8,((bu aS 8) &&& 255).toUInt8,(be &&& 255).toUInt8]) (vs:=[v8 ((bu bc 24).toUInt8),v8 (((bu aP 16) &&& 255).toUInt8),v8 (((bu aS 8) &&& 255).toUInt8),v8 ((be &&& 255).toUInt8)]) u24 ti5 Z Z Z Z (by decide) (by decide) a) Z fun c1 w a=>J h fun cH ck h=>wh (a.d [2] Z Z) Z Z (dG u24 ti5 Z Z Z a (i:=1) Z (a.ro 0 Z) ck) Z fun cI w a=>an 1 Z (a.d [2] Z Z)<|bn (a.d [2] Z Z) ?_
  exact aF<|ak<|al<|V 3 Z<|aE<|bf (bd (cG (cH,wI (cV+1)) _ _ ⟨cI,Z,(a.d [1,2] Z Z)⟩ (aL h b8)) Z)
 refine aQ<|au<|au<|have h:=aI h b8;aR<|ak<|R<|V 2 Z<|Q<|az ?_
 cases h
 exact ay Z Z (a.d [0] Z Z)
theorem dM {a:World} (a0:UInt64) (a1:Int) {r:UInt64}
  (h:F.C5 a0 a1=some r) :Calls Tryz.prog 165 #[v64 a0,H a1] a (Ret fun v w=>v=v64 r∧St [] a w []):=by
 refine aB 15 Tryz.func165 Z Z Z<|have b:=St.k a;ax [(0,v64 a0),(1,H a1)] Z ?_
 unfold F.C5 at h
 refine R<|V 1 Z<|gl2<|V 2 Z<|N (aD Z (dy u3 u87 a1)) Z<|N (aj Z Z (cc _ a0 (UInt64.ofInt a1))) Z<|V 3 Z<|N (aD Z (dy u3 u87 (wI (64 - a1)))) Z<|N (aj Z Z (dr _ a0 (UInt64.ofInt (wI (64 - a1))))) Z<|N (aj Z Z (eX _ (aM a0 ((UInt64.ofInt a1).toNat)) (bB a0 ((UInt64.ofInt (wI (64 - a1))).toNat)))) Z<|V 1 Z<|Q<|az ?_
 cases h
 exact ay Z Z ⟨Z,b⟩
set_option maxHeartbeats 8000000 in
theorem oo {C:World} {a0:List UInt8} {cv:Value} (y:List UInt64) {r:List UInt8}
  (h:F.GZ a0 y=some r) (hT:TB [] C) (cw:RP [] C e8 cv a0) (cK:y.length=8):Calls Tryz.prog 132 #[cv,.agg (e64.fl y).toArray] C (Ret fun v w=>St [] C w [U e8 v r]):=by
 refine aB 242 Tryz.func132 Z Z Z<|have a:=St.k C;ax [(0,cv),(1,.agg (e64.fl y).toArray)] Z ?_
 unfold F.GZ at h
 refine R<|bh (cu (cs:=e64.fl y) Z Z a) Z fun c w a=>V 1 Z<|gl2<|V 1 Z<|J h fun br dc h=>aU a Z (mi 128 dc (cw.b a.fr).rp) Z fun a5 w a=>V 1 Z<|Q ?_
 refine aZ (r:=r) (fun (g:List UInt8) L w=>∃(d:Value),L=[(3,O c 0),(5,d)]∧St [] C w [U e8 d g,Y c (e64.fl y)]) (F.Fj y) ?_ ?_
 rotate_left
 ·intro bW
  refine aZ (r:=r) (fun (g:Bool) L w=>L=[(3,O c 0),(5,a5),(35,K g)]∧St [] C w [Y c (e64.fl y),U e8 a5 br]) (F.HD br y) ?_ ?_
  rotate_left
  ·intro cx
   refine al<|V 1 Z<|N (aC u24 Z (cw.b a.fr)) Z<|N (aj Z Z (fW _ (a0.length:Int) 128 (by decide))) Z<|V 2 Z ?_
   cases a6:(decide ((112:Int)≤(Int.tmod (a0.length:Int) 128)))
   case true=>
    have h:=cH h a6
    try simp only [a6]
    exact V 1 Z<|bE (t:=30) Z Z (aC u24 Z (cw.b a.fr)) Z<|bE (t:=30) Z Z (aj Z Z (fW _ (a0.length:Int) 128 (by decide))) Z<|V 2 Z<|Q<|aH (cx (decide ((Int.tmod (a0.length:Int) 128)<120)) _ _ ⟨Z,(a.d [1,0] Z Z)⟩ h) Z
   case false=>
    have h:=cI h a6
    try simp only [a6]
    exact V 5 Z<|Q<|aH (cx false _ _ ⟨Z,(a.d [1,0] Z Z)⟩ h) Z
  rintro dW L w hJ h
  try dsimp only at hJ
  obtain ⟨rfl,a⟩:=hJ
  unfold F.HD at h
  refine gl9 Z h (fun h=>?_) (fun h=>?_)
  ·refine R<|V 1 Z<|gl2<|V 3 Z<|N (aC u24 Z (a.ro 1 Z)) Z<|V 1 Z<|da h fun cy h=>N (jy u24 ti5 Z Z (a.ro 1 Z) (iB cy)) Z<|J h fun dd cL h=>bG (jb u24 ti5 Z Z Z a ((a.ro 1 Z).tk cy.2) cL) Z fun cz w a=>V 1 Z<|gl1<|R<|V 1 Z<|Q<|ar<|ax [(3,O c 0),(5,a5),(6,cz),(7,H 0)] Z ?_
   refine aT (F.Fv br y) (fun (s:List UInt8×Int) L w=>∃(bN:Value),L=[(3,O c 0),(5,a5),(6,bN),(7,H s.2)]∧St [] C w [U e8 bN s.1,Y c (e64.fl y),U e8 a5 br]) ?_ (dd,0) ⟨cz,Z,a⟩ h
   rintro dJ ⟨dK,df⟩ L w dL z cM h bX
   try dsimp only at z
   obtain ⟨bN,rfl,a⟩:=z
   unfold F.Fv at h
   refine av<|R<|V 2 Z<|Q ?_
   refine gl9 Z h (fun h=>?_) (fun h=>?_)
   ·exact gl5<|av<|ar<|al<|V 1 Z<|bG (cp (e:=e8) (l:=[0]) (vs:=[v8 0]) u24 ti5 Z Z Z Z (by decide) (by decide) a) Z fun dN w a=>J h fun dg cN h=>bG (dG u24 ti5 Z Z Z a (i:=1) Z (a.ro 0 Z) cN) Z fun dh w a=>V 1 Z<|aE<|aF<|ak<|al<|V 3 Z<|aE<|bf (bd (cM (dg,wI (df+1)) _ _ ⟨dh,Z,(a.d [1,2,3] Z Z)⟩ (aL h bX)) Z)
   exact aQ<|au<|au<|have h:=aI h bX;aR<|ak<|al<|V 3 Z<|N (aC u24 Z (a.ro 2 Z)) Z<|V 1 Z<|J h fun dO bY h=>N (o5 u24 ti5 Z Z (a.ro 2 Z) bY) Z<|J h fun di cO h=>bG (dG u24 ti5 Z Z Z a (i:=0) Z ((a.ro 2 Z).g_sll bY) cO) Z fun dj w a=>V 1 Z<|Q<|aH (bW di _ _ ⟨dj,Z,(a.d [0,1] Z Z)⟩ h) Z
  exact gl5<|aH (bW br _ _ ⟨a5,Z,(a.d [1,0] Z Z)⟩ h) Z
 rintro p L w hJ h
 try dsimp only at hJ
 obtain ⟨d,rfl,a⟩:=hJ
 unfold F.Fj at h
 refine av<|R<|V 1 Z<|Q<|ar<|ax [(3,O c 0),(5,d),(8,H 0)] Z ?_
 refine aT (F.Hf p) (fun (s:Int×List UInt64) L w=>L=[(3,O c 0),(5,d),(8,H s.1)]∧s.2.length=8∧St [] C w [Y c (e64.fl s.2),U e8 d p]) ?_ (0,y) ⟨Z,cK,(a.d [1,0] Z Z)⟩ h
 rintro dv ⟨q,k⟩ L w dP z cP h bZ
 try dsimp only at z
 obtain ⟨rfl,ac,a⟩:=z
 unfold F.Hf at h
 refine av<|R<|V 2 Z<|N (aC u24 Z (a.ro 1 Z)) Z<|V 1 Z<|Q ?_
 refine gl9 Z h (fun h=>?_) (fun h=>?_)
 ·refine gl5<|av<|ar<|R<|bh (ba (cs:=e64.fl (List.replicate 80 0)) z7 (by kernel_rfl) a) Z fun o w a=>gl1<|R<|V 1 Z<|Q<|ar<|ax [(3,O c 0),(5,d),(8,H q),(9,O o 0),(10,H 0)] Z ?_
  refine aT (F.Ft k p q) (fun (s:Int×List UInt64) L w=>L=[(3,O c 0),(5,d),(8,H q),(9,O o 0),(10,H s.1)]∧s.2.length=80∧St [] C w [Y c (e64.fl k),U e8 d p,Y o (e64.fl s.2)]) ?_ (0,(List.replicate 80 0)) ⟨Z,List.length_replicate,(a.d [1,2,0] Z Z)⟩ h
  rintro dw ⟨ab,aA⟩ L w dk z cQ h b0
  try dsimp only at z
  obtain ⟨rfl,A,a⟩:=z
  unfold F.Ft at h
  refine av<|R<|V 2 Z<|Q ?_
  refine gl9 Z h (fun h=>?_) (fun h=>?_)
  ·refine gl5 ?_
   refine aZ (r:=dk) (fun (g:List UInt64) L w=>L=[(3,O c 0),(5,d),(8,H q),(9,O o 0),(10,H ab)]∧g.length=80∧St [] C w [Y c (e64.fl k),U e8 d p,Y o (e64.fl g)]) (F.F9 ab) ?_ ?_
   rotate_left
   ·intro b1
    refine ar<|av<|R<|V 2 Z<|Q ?_
    refine gl9 Z h (fun h=>?_) (fun h=>?_)
    ·refine av<|R<|V 1 Z<|Q<|ar<|ax [(3,O c 0),(5,d),(8,H q),(9,O o 0),(10,H ab),(11,H 0)] Z ?_
     refine aT (F.FI p q ab) (fun (s:Int×List UInt64) L w=>L=[(3,O c 0),(5,d),(8,H q),(9,O o 0),(10,H ab),(11,H s.1)]∧s.2.length=80∧St [] C w [Y c (e64.fl k),U e8 d p,Y o (e64.fl s.2)]) ?_ (0,aA) ⟨Z,A,a⟩ h
     rintro dQ ⟨dl,cA⟩ L w dS z cR h b2
     try dsimp only at z
     obtain ⟨rfl,aS,a⟩:=z
     unfold F.FI at h
     refine av<|R<|V 2 Z<|Q ?_
     refine gl9 Z h (fun h=>?_) (fun h=>?_)
     ·refine gl5<|av<|ar<|de (fun w'=>St [] C w' [Y c (e64.fl k),U e8 d p,Y o (e64.fl cA)]) (fun i=>!([17].contains i)) bR (fun _ _ _ D=>D.2) (fun _ _ D=>D) (by kernel_rfl)<|have a:=a.drew;show lxE _ _ _ _ _ _ _ [0,1,2,3,4,5,6,7,8,9,10,11,12,13,14,15,16,17] _ _ from an 2 Z a<|J h fun bO b3 h=>ai a Z Z (fun w b=>aY u167 cb Z Z (aV b3 aS)) Z<|ai a Z Z (fun w b=>aw u119 Z Z (b.r 2 Z (Up.elr Up.last b3 Z))) Z<|ai a Z Z (fun w b=>aj Z Z (dr _ bO 8)) Z<|an 3 Z a<|ai a Z Z (fun w b=>aj Z Z (dR _ 8 ab)) Z<|an 3 Z a<|J h fun bP b4 h=>ai a Z Z (fun w b=>bk u24 ti5 Z Z (b.ro 1 Z) b4) Z<|ai a Z Z (fun w b=>a8 Tryz.underlying5 Z Z (b.ro 1 Z) b4 Z) Z<|ai a Z Z (fun w b=>aD Z (qg Tryz.underlying5 u119 bP)) Z<|ai a Z Z (fun w b=>aj Z Z (eX _ (bB bO 8) bP.toUInt64)) Z<|J h fun dT b5 h=>ai a Z Z (fun w b=>aY u167 cb Z Z (aV b5 aS)) Z<|fU a Z Z (dn (m:=1) Z cb Z Z Z (Up.elt (t':=((bB bO 8) ||| bP.toUInt64)) Up.last b5 Z Z) Z Z (ep Z) a (i:=2)) fun w a=>a7 h fun dp b6 h=>?_
      rw [b6]at a
      exact bn I<|aF<|ak<|al<|V 3 Z<|aE<|bf (bd (cR (wI (dl+1),dp) _ _ ⟨Z,(by rw [←b6,List.length_set]; exact aS),a⟩ (aL h b2)) Z)
     exact aQ<|au<|au<|have h:=aI h b2;aR<|ak<|aQ<|au<|aR<|ak<|aH (b1 cA _ _ ⟨Z,aS,a⟩ h) Z
    refine gl6<|V 2 Z<|J h fun S b7 h=>N (aY u167 cb Z Z (aV b7 A)) Z<|N (aw u119 Z Z (a.r 2 Z (Up.elr Up.last b7 Z))) Z<|V 1 Z<|gl2<|V 2 Z<|J h fun aG b8 h=>N (aY u167 cb Z Z (aV b8 A)) Z<|N (aw u119 Z Z (a.r 2 Z (Up.elr Up.last b8 Z))) Z<|V 1 Z<|Q<|de (fun w'=>St [] C w' [Y c (e64.fl k),U e8 d p,Y o (e64.fl aA)]) (fun i=>!([6,8,20,22,29].contains i)) bR (fun _ _ _ D=>D.2) (fun _ _ D=>D) (by kernel_rfl)<|have a:=a.drew;show lxE _ _ _ _ _ _ _ [0,1,2,3,4,5,6,7,8,9,10,11,12,13,14,15,16,17,18,19,20,21,22,23,24,25,26,27,28,29] _ _ from an 3 Z a<|J h fun bc b9 h=>ai a Z Z (fun w b=>aY u167 cb Z Z (aV b9 A)) Z<|ai a Z Z (fun w b=>aw u119 Z Z (b.r 2 Z (Up.elr Up.last b9 Z))) Z<|an 1 Z a<|J h fun aJ cS h=>bb a Z Z (by kernel_rfl) Z (dM S 1 cS ) Z ?_
    rintro _ w ⟨rfl,u⟩
    have a:=a.e u
    refine an 1 Z a<|J h fun aK cT h=>bb a Z Z (by kernel_rfl) Z (dM S 8 cT ) Z ?_
    rintro _ w ⟨rfl,u⟩
    have a:=a.e u
    refine ai a Z Z (fun w b=>aj Z Z (dm _ aJ aK)) Z<|an 1 Z a<|ai a Z Z (fun w b=>aj Z Z (cc _ S 7)) Z<|ai a Z Z (fun w b=>aj Z Z (dm _ (aJ ^^^ aK) (aM S 7))) Z<|ai a Z Z (fun w b=>aj Z Z (bU _ bc ((aJ ^^^ aK) ^^^ (aM S 7)))) Z<|an 2 Z a<|J h fun bQ ca h=>ai a Z Z (fun w b=>aY u167 cb Z Z (aV ca A)) Z<|ai a Z Z (fun w b=>aw u119 Z Z (b.r 2 Z (Up.elr Up.last ca Z))) Z<|ai a Z Z (fun w b=>aj Z Z (bU _ (bc+((aJ ^^^ aK) ^^^ (aM S 7))) bQ)) Z<|an 1 Z a<|J h fun be cU h=>bb a Z Z (by kernel_rfl) Z (dM aG 19 cU ) Z ?_
    rintro _ w ⟨rfl,u⟩
    have a:=a.e u
    refine an 1 Z a<|J h fun bi cV h=>bb a Z Z (by kernel_rfl) Z (dM aG 61 cV ) Z ?_
    rintro _ w ⟨rfl,u⟩
    have a:=a.e u
    refine ai a Z Z (fun w b=>aj Z Z (dm _ be bi)) Z<|an 1 Z a<|ai a Z Z (fun w b=>aj Z Z (cc _ aG 6)) Z<|ai a Z Z (fun w b=>aj Z Z (dm _ (be ^^^ bi) (aM aG 6))) Z<|ai a Z Z (fun w b=>aj Z Z (bU _ ((bc+((aJ ^^^ aK) ^^^ (aM S 7)))+bQ) ((be ^^^ bi) ^^^ (aM aG 6)))) Z<|J h fun dU cd h=>ai a Z Z (fun w b=>aY u167 cb Z Z (aV cd A)) Z<|fU a Z Z (dn (m:=1) Z cb Z Z Z (Up.elt (t':=(((bc+((aJ ^^^ aK) ^^^ (aM S 7)))+bQ)+((be ^^^ bi) ^^^ (aM aG 6)))) Up.last cd Z Z) Z Z (ep Z) a (i:=2)) fun w a=>a7 h fun dq ce h=>?_
    rw [ce]at a
    exact bn I<|aF<|ak<|aH (b1 dq _ _ ⟨Z,(by rw [←ce,List.length_set]; exact A),a⟩ h) Z
   rintro ds L w hJ h
   try dsimp only at hJ
   obtain ⟨rfl,cW,a⟩:=hJ
   unfold F.F9 at h
   exact al<|V 3 Z<|aE<|bf (bd (cQ (wI (ab+1),ds) _ _ ⟨Z,cW,a⟩ (aL h b0)) Z)
  refine aQ<|au<|au<|have h:=aI h b0;aR<|ak<|R<|N (fD (us:=e64.fl k) u143 Z iY (bg ac Z) Z (a.bxgs0 0 Z Up.last)) Z<|bh (ba (cs:=e64.fl (List.replicate 8 0)) CI (by kernel_rfl) a) Z fun E w a=>bl (dn (m:=8) (xs:=e64.fl (List.replicate 8 0)) (xs':=e64.fl k) (i:=0) Z iY Z Z Z Up.last (bg List.length_replicate Z) (bg ac Z) gc a) fun w a=>gl1<|R<|V 1 Z<|Q<|ar<|ax [(3,O c 0),(5,d),(8,H q),(9,O o 0),(14,O E 0),(15,H 0)] Z ?_
  refine aT (F.GP k aA q) (fun (s:Int×List UInt64) L w=>L=[(3,O c 0),(5,d),(8,H q),(9,O o 0),(14,O E 0),(15,H s.1)]∧s.2.length=8∧St [] C w [Y c (e64.fl k),U e8 d p,Y o (e64.fl aA),Y E (e64.fl s.2)]) ?_ (0,k) ⟨Z,ac,(a.d [1,2,3,0] Z Z)⟩ h
  rintro dx ⟨dt,aN⟩ L w dV z cX h cf
  try dsimp only at z
  obtain ⟨rfl,f,a⟩:=z
  unfold F.GP at h
  refine av<|R<|V 2 Z<|Q ?_
  refine gl9 Z h (fun h=>?_) (fun h=>?_)
  ·refine gl5<|av<|ar<|R<|J h fun n cg h=>N (aY u143 cb Z Z (aV cg f)) Z<|N (aw u119 Z Z (a.r 3 Z (Up.elr Up.last cg Z))) Z<|V 1 Z<|gl2<|J h fun j ch h=>N (aY u143 cb Z Z (aV ch f)) Z<|N (aw u119 Z Z (a.r 3 Z (Up.elr Up.last ch Z))) Z<|V 1 Z<|gl1<|aX (fun w'=>St [] C w' [Y c (e64.fl k),U e8 d p,Y o (e64.fl aA),Y E (e64.fl aN)]) (fun i=>!([3,5,8].contains i)) bR (fun _ _ _ D=>D.2) (fun _ _ D=>D) (by kernel_rfl)<|have a:=a.drew;show lxE _ _ _ _ _ _ _ [0,1,2,3,4,5,6,7,8,9,10,11,12,13,14,15,16,17,18,19,20,21,22,23,24,25,26,27,28,29,30] _ _ from J h fun bj ci h=>ai a Z Z (fun w b=>aY u143 cb Z Z (aV ci f)) Z<|ai a Z Z (fun w b=>aw u119 Z Z (b.r 3 Z (Up.elr Up.last ci Z))) Z<|an 1 Z a<|J h fun aO cY h=>bb a Z Z (by kernel_rfl) Z (dM j 14 cY ) Z ?_
   rintro _ w ⟨rfl,u⟩
   have a:=a.e u
   refine an 1 Z a<|J h fun aP cZ h=>bb a Z Z (by kernel_rfl) Z (dM j 18 cZ ) Z ?_
   rintro _ w ⟨rfl,u⟩
   have a:=a.e u
   refine ai a Z Z (fun w b=>aj Z Z (dm _ aO aP)) Z<|an 1 Z a<|J h fun a2 c0 h=>bb a Z Z (by kernel_rfl) Z (dM j 41 c0 ) Z ?_
   rintro _ w ⟨rfl,u⟩
   have a:=a.e u
   refine ai a Z Z (fun w b=>aj Z Z (dm _ (aO ^^^ aP) a2)) Z<|ai a Z Z (fun w b=>aj Z Z (bU _ bj ((aO ^^^ aP) ^^^ a2))) Z<|an 1 Z a<|J h fun a3 cj h=>ai a Z Z (fun w b=>aY u143 cb Z Z (aV cj f)) Z<|ai a Z Z (fun w b=>aw u119 Z Z (b.r 3 Z (Up.elr Up.last cj Z))) Z<|ai a Z Z (fun w b=>aj Z Z (ej _ j a3)) Z<|an 1 Z a<|ai a Z Z (fun w b=>i9 Z (A8 j)) Z<|J h fun a4 ck h=>ai a Z Z (fun w b=>aY u143 cb Z Z (aV ck f)) Z<|ai a Z Z (fun w b=>aw u119 Z Z (b.r 3 Z (Up.elr Up.last ck Z))) Z<|ai a Z Z (fun w b=>aj Z Z (ej _ (~~~ j) a4)) Z<|ai a Z Z (fun w b=>aj Z Z (dm _ (j &&& a3) ((~~~ j) &&& a4))) Z<|ai a Z Z (fun w b=>aj Z Z (bU _ (bj+((aO ^^^ aP) ^^^ a2)) ((j &&& a3) ^^^ ((~~~ j) &&& a4)))) Z<|an 1 Z a<|J h fun cB cl h=>ai a Z Z (fun w b=>aY u167 cb Z Z (aV cl (show F.Dr.length=80 from Z))) Z<|ai a Z Z (fun w b=>aw u119 Z Z (hT.ref4_k512.cell b.fr cl Z)) Z<|ai a Z Z (fun w b=>aj Z Z (bU _ ((bj+((aO ^^^ aP) ^^^ a2))+((j &&& a3) ^^^ ((~~~ j) &&& a4))) cB)) Z ?_
   refine an 1 Z a<|J h fun du cm h=>ai a Z Z (fun w b=>aY u167 cb Z Z (aV cm A)) Z<|ai a Z Z (fun w b=>aw u119 Z Z (b.r 2 Z (Up.elr Up.last cm Z))) Z<|ai a Z Z (fun w b=>aj Z Z (bU _ (((bj+((aO ^^^ aP) ^^^ a2))+((j &&& a3) ^^^ ((~~~ j) &&& a4)))+cB) du)) Z<|a7 h fun x c1 h=>ai a Z Z (fun w b=>a9 (v:=v64 x) (by rw [←c1]; rfl)) Z<|bn a<|ak<|av<|aX (fun w'=>St [] C w' [Y c (e64.fl k),U e8 d p,Y o (e64.fl aA),Y E (e64.fl aN)]) (fun i=>!([1,3,6].contains i)) bR (fun _ _ _ D=>D.2) (fun _ _ D=>D) (by kernel_rfl)<|have a:=a.drew;show lxE _ _ _ _ _ _ _ [0,1,2,3,4,5,6,7,8,9,10,11,12,13,14,15,16,17,18,19,20,21,22,23,24] _ _ from an 1 Z a<|J h fun bS c2 h=>bb a Z Z (by kernel_rfl) Z (dM n 28 c2 ) Z ?_
   rintro _ w ⟨rfl,u⟩
   have a:=a.e u
   refine an 1 Z a<|J h fun bV c3 h=>bb a Z Z (by kernel_rfl) Z (dM n 34 c3 ) Z ?_
   rintro _ w ⟨rfl,u⟩
   have a:=a.e u
   refine ai a Z Z (fun w b=>aj Z Z (dm _ bS bV)) Z<|an 1 Z a<|J h fun cC c4 h=>bb a Z Z (by kernel_rfl) Z (dM n 39 c4 ) Z ?_
   rintro _ w ⟨rfl,u⟩
   have a:=a.e u
   refine ai a Z Z (fun w b=>aj Z Z (dm _ (bS ^^^ bV) cC)) Z<|an 1 Z a<|J h fun bm cn h=>ai a Z Z (fun w b=>aY u143 cb Z Z (aV cn f)) Z<|ai a Z Z (fun w b=>aw u119 Z Z (b.r 3 Z (Up.elr Up.last cn Z))) Z<|ai a Z Z (fun w b=>aj Z Z (ej _ n bm)) Z<|an 1 Z a<|J h fun bo co h=>ai a Z Z (fun w b=>aY u143 cb Z Z (aV co f)) Z<|ai a Z Z (fun w b=>aw u119 Z Z (b.r 3 Z (Up.elr Up.last co Z))) Z<|ai a Z Z (fun w b=>aj Z Z (ej _ n bo)) Z<|ai a Z Z (fun w b=>aj Z Z (dm _ (n &&& bm) (n &&& bo))) Z<|J h fun bp bt h=>ai a Z Z (fun w b=>aY u143 cb Z Z (aV bt f)) Z<|ai a Z Z (fun w b=>aw u119 Z Z (b.r 3 Z (Up.elr Up.last bt Z))) Z<|J h fun bq bu h=>ai a Z Z (fun w b=>aY u143 cb Z Z (aV bu f)) Z<|ai a Z Z (fun w b=>aw u119 Z Z (b.r 3 Z (Up.elr Up.last bu Z))) Z<|ai a Z Z (fun w b=>aj Z Z (ej _ bp bq)) Z<|ai a Z Z (fun w b=>aj Z Z (dm _ ((n &&& bm) ^^^ (n &&& bo)) (bp &&& bq))) Z<|ai a Z Z (fun w b=>aj Z Z (bU _ ((bS ^^^ bV) ^^^ cC) (((n &&& bm) ^^^ (n &&& bo)) ^^^ (bp &&& bq)))) Z ?_
   refine a7 h fun G cD h=>ai a Z Z (fun w b=>a9 (v:=v64 G) (by rw [←cD]; rfl)) Z<|bn a<|ak<|al<|V 2 Z<|N (aj Z Z (bU _ x G)) Z<|V 1 Z<|J h fun ad bv h=>N (aY u143 cb Z Z (aV bv f)) Z<|N (aw u119 Z Z (a.r 3 Z (Up.elr Up.last bv Z))) Z<|J h fun ae bw h=>N (aY u143 cb Z Z (aV bw f)) Z<|N (aw u119 Z Z (a.r 3 Z (Up.elr Up.last bw Z))) Z<|J h fun T bz h=>N (aY u143 cb Z Z (aV bz f)) Z<|N (aw u119 Z Z (a.r 3 Z (Up.elr Up.last bz Z))) Z<|V 1 Z<|N (aj Z Z (bU _ T x)) Z<|V 1 Z<|J h fun ah bA h=>N (aY u143 cb Z Z (aV bA f)) Z<|N (aw u119 Z Z (a.r 3 Z (Up.elr Up.last bA Z))) Z<|J h fun am bC h=>N (aY u143 cb Z Z (aV bC f)) Z<|N (aw u119 Z Z (a.r 3 Z (Up.elr Up.last bC Z))) Z<|N (bT (vs:=[(0,v64 (x+G),[v64 (x+G)]),(1,v64 n,[v64 n]),(2,v64 ad,[v64 ad]),(3,v64 ae,[v64 ae]),(4,v64 (T+x),[v64 (T+x)]),(5,v64 j,[v64 j]),(6,v64 ah,[v64 ah]),(7,v64 am,[v64 am])]) (cells:=[v64 (x+G),v64 n,v64 ad,v64 ae,v64 (T+x),v64 j,v64 ah,v64 am]) Z yf ⟨Z,Z,Z,Z,Z,Z,Z,Z,I⟩ (by kernel_rfl)) Z ?_
   exact bl (dn (m:=8) (xs:=e64.fl aN) (xs':=e64.fl ([x+G,n,ad,ae,T+x,j,ah,am]:List UInt64)) (i:=3) Z iY Z Z Z Up.last (bg f Z) (bg Z Z) gc a) fun w a=>aE<|aF<|ak<|al<|V 3 Z<|aE<|bf (bd (cX (wI (dt+1),([x+G,n,ad,ae,T+x,j,ah,am]:List UInt64)) _ _ ⟨Z,Z,a⟩ (aL h cf)) Z)
  refine aQ<|au<|au<|have h:=aI h cf;aR<|ak<|R<|V 1 Z<|Q<|ar<|ax [(3,O c 0),(5,d),(8,H q),(14,O E 0),(20,H 0)] Z ?_
  refine aT (F.FD q aN) (fun (s:Int×List UInt64) L w=>L=[(3,O c 0),(5,d),(8,H q),(14,O E 0),(20,H s.1)]∧s.2.length=8∧St [] C w [Y c (e64.fl s.2),U e8 d p,Y E (e64.fl aN)]) ?_ (0,k) ⟨Z,ac,(a.d [0,1,3] Z Z)⟩ h
  rintro dz ⟨c5,cq⟩ L w dA z cE h bD
  try dsimp only at z
  obtain ⟨rfl,ao,a⟩:=z
  unfold F.FD at h
  refine av<|R<|V 2 Z<|Q ?_
  refine gl9 Z h (fun h=>?_) (fun h=>?_)
  ·refine gl5<|av<|ar<|de (fun w'=>St [] C w' [Y c (e64.fl cq),U e8 d p,Y E (e64.fl aN)]) (fun i=>!([9].contains i)) bR (fun _ _ _ D=>D.2) (fun _ _ D=>D) (by kernel_rfl)<|have a:=a.drew;show lxE _ _ _ _ _ _ _ [0,1,2,3,4,5,6,7,8,9] _ _ from an 2 Z a<|J h fun cr bF h=>ai a Z Z (fun w b=>aY u143 cb Z Z (aV bF ao)) Z<|ai a Z Z (fun w b=>aw u119 Z Z (b.r 0 Z (Up.elr Up.last bF Z))) Z<|an 1 Z a<|J h fun ct bH h=>ai a Z Z (fun w b=>aY u143 cb Z Z (aV bH f)) Z<|ai a Z Z (fun w b=>aw u119 Z Z (b.r 2 Z (Up.elr Up.last bH Z))) Z<|ai a Z Z (fun w b=>aj Z Z (bU _ cr ct)) Z<|J h fun dB bI h=>ai a Z Z (fun w b=>aY u143 cb Z Z (aV bI ao)) Z<|fU a Z Z (dn (m:=1) Z cb Z Z Z (Up.elt (t':=(cr+ct)) Up.last bI Z Z) Z Z (ep Z) a (i:=0)) fun w a=>a7 h fun c6 bJ h=>?_
   rw [bJ]at a
   exact bn I<|aF<|ak<|al<|V 3 Z<|aE<|bf (bd (cE (wI (c5+1),c6) _ _ ⟨Z,(by rw [←bJ,List.length_set]; exact ao),a⟩ (aL h bD)) Z)
  exact aQ<|au<|au<|have h:=aI h bD;aR<|aF<|ak<|al<|V 3 Z<|aE<|bf (bd (cP (wI (q+128),cq) _ _ ⟨Z,ao,(a.d [0,1] Z Z)⟩ (aL h bZ)) Z)
 refine aQ<|au<|au<|have h:=aI h bZ;aR<|ak<|R<|V 1 Z<|gl1<|R<|V 1 Z<|Q<|ar<|ax [(3,O c 0),(21,.slice none 0 0),(22,H 0)] Z ?_
 refine aT (F.G7 k) (fun (s:List UInt8×Int) L w=>∃(ap:Value),L=[(3,O c 0),(21,ap),(22,H s.2)]∧St [] C w [U e8 ap s.1,Y c (e64.fl k)]) ?_ ([],0) ⟨.slice none 0 0,Z,((a.nil e8).d [0,1] Z Z)⟩ h
 rintro dC ⟨c7,aW⟩ L w dD z cF h bK
 try dsimp only at z
 obtain ⟨ap,rfl,a⟩:=z
 unfold F.G7 at h
 refine av<|R<|V 2 Z<|Q ?_
 refine gl9 Z h (fun h=>?_) (fun h=>?_)
 ·refine gl5<|av<|ar<|R<|V 1 Z<|Q<|ar<|ax [(3,O c 0),(21,ap),(22,H aW),(23,H 7)] Z ?_
  refine aT (F.F5 k aW) (fun (s:List UInt8×Int) L w=>∃(a1:Value),L=[(3,O c 0),(21,a1),(22,H aW),(23,H s.2)]∧St [] C w [U e8 a1 s.1,Y c (e64.fl k)]) ?_ (c7,7) ⟨ap,Z,a⟩ h
  rintro dE ⟨c8,B⟩ L w dF z cG h bL
  try dsimp only at z
  obtain ⟨a1,rfl,a⟩:=z
  unfold F.F5 at h
  refine av<|R<|V 2 Z<|Q ?_
  refine gl9 Z h (fun h=>?_) (fun h=>?_)
  ·exact gl5<|av<|ar<|al<|V 2 Z<|J h fun aq bM h=>N (aY u143 cb Z Z (aV bM ac)) Z<|N (aw u119 Z Z (a.r 1 Z (Up.elr Up.last bM Z))) Z<|V 1 Z<|N (aj Z Z (dR _ 8 B)) Z<|N (aD Z (dy u3 u87 (wI (8*B)))) Z<|N (aj Z Z (cc _ aq (UInt64.ofInt (wI (8*B))))) Z<|N (aj Z Z (ej _ (aM aq ((UInt64.ofInt (wI (8*B))).toNat)) 255)) Z<|N (aD Z (kY u119 Tryz.underlying5 ((aM aq ((UInt64.ofInt (wI (8*B))).toNat)) &&& 255))) Z<|bG (cp (e:=e8) (l:=[((aM aq ((UInt64.ofInt (wI (8*B))).toNat)) &&& 255).toUInt8]) (vs:=[v8 (((aM aq ((UInt64.ofInt (wI (8*B))).toNat)) &&& 255).toUInt8)]) u24 ti5 Z Z Z Z (by decide) (by decide) a) Z fun dH w a=>J h fun c9 cJ h=>bG (dG u24 ti5 Z Z Z a (i:=1) Z (a.ro 0 Z) cJ) Z fun db w a=>V 1 Z<|aE<|aF<|ak<|al<|V 3 Z<|aE<|bf (bd (cG (c9,wI (B - 1)) _ _ ⟨db,Z,(a.d [1,2] Z Z)⟩ (aL h bL)) Z)
  exact aQ<|au<|au<|have h:=aI h bL;aR<|aF<|ak<|al<|V 3 Z<|aE<|bf (bd (cF (c8,wI (aW+1)) _ _ ⟨a1,Z,a⟩ (aL h bK)) Z)
 refine aQ<|au<|au<|have h:=aI h bK;aR<|ak<|R<|V 2 Z<|Q<|az ?_
 cases h
 exact ay Z Z (a.d [0] Z Z)
theorem vt {b:World} {a1:List UInt8} {c:Value} (a0:Int) {r:List UInt8}
  (h:F.H3 a0 a1=some r) (d:TB [] b) (e:RP [] b e8 c a1):Calls Tryz.prog 69 #[H a0,c] b (Ret fun v w=>St [] b w [U e8 v r]):=by
 refine aB 21 Tryz.func69 Z Z Z<|have a:=St.k b;ax [(0,H a0),(1,c)] Z ?_
 unfold F.H3 at h
 refine R<|V 1 Z<|gl1<|R<|V 1 Z<|Q<|ar<|R<|V 2 Z<|Q ?_
 refine gl9 Z h (fun h=>?_) (fun h=>?_)
 ·refine R<|V 1 Z<|J h fun l g h=>aU a Z (rR  g (d.b a.fr) (e.b a.fr).rp) Z fun m w a=>V 1 Z<|Q<|az<|bA<|aW ?_
  cases h
  exact ay Z Z (a.d [0] Z Z)
 refine R<|V 2 Z<|Q ?_
 refine gl9 Z h (fun h=>?_) (fun h=>?_)
 ·refine R<|V 1 Z<|N (fD (us:=e64.fl F.Du) u143 Z iY (bg (show F.Du.length=8 from Z) Z) Z (d.ref4_start384.cells a.fr)) Z<|J h fun n j h=>aU a Z (oo F.Du j (d.b a.fr) (e.b a.fr).rp (show F.Du.length=8 from Z)) Z fun o w a=>da h fun f h=>N (jy u24 ti5 Z Z (a.ro 0 Z) (iB f)) Z<|V 1 Z<|Q<|az<|bA<|aW ?_
  cases h
  replace a:=a.trunc (i:=0) rfl f.2
  exact ay Z Z (a.d [0] Z Z)
 refine R<|V 2 Z<|Q ?_
 refine gl9 Z h (fun h=>?_) (fun h=>?_)
 ·refine R<|V 1 Z<|N (fD (us:=e64.fl F.Dl) u143 Z iY (bg (show F.Dl.length=8 from Z) Z) Z (d.ref4_start512.cells a.fr)) Z<|J h fun p k h=>aU a Z (oo F.Dl k (d.b a.fr) (e.b a.fr).rp (show F.Dl.length=8 from Z)) Z fun q w a=>V 1 Z<|Q<|az<|bA<|aW ?_
  cases h
  exact ay Z Z (a.d [0] Z Z)
 refine cd<|aF<|ak<|R<|V 1 Z<|Q<|az ?_
 cases h
 exact ay Z Z ((a.nil e8).d [0] Z Z)
end Go.Proofs
