import Derived.Test.YtahgjafdhjbkeaaGreatDoorRW0
import Derived.Test.YtahgjafdhjbkeaaGreatDoorGkFman
set_option linter.unusedVariables false
set_option linter.unusedSimpArgs false
set_option linter.unusedSectionVars false
set_option maxRecDepth 4000
namespace Go.Proofs
open Go Go.RowKit Go.Gk
open Go.Gk renaming aa -> V, af -> J, ag -> N, ai -> H, e32 -> X, gl3 -> P, gl4 -> R, own -> U, pB -> O, vB -> K, vI -> I
open Go.Gk.OE renaming bx -> Y
theorem ux {b:World} (a0:Int) {r:Int}
  (h:F.IZ a0=some r) :Calls Tryz.prog 25 #[I a0] b (Ret fun v w=>v=I r/\St [] b w []):=by
 refine aB 10 Tryz.func25 Z Z Z<|have a:=St.k b;ax [(0,I a0)] Z ?_
 unfold F.IZ at h
 refine R<|V 1 Z<|gl1<|R<|V 1 Z<|P<|aq<|R<|V 2 Z<|P ?_
 apply gl9 Z h<;>intro h
 ·refine R<|V 1 Z<|P<|ay<|bu<|aU ?_
  cases h
  exact az Z Z ⟨Z,a⟩
 refine R<|V 2 Z<|P ?_
 apply gl9 Z h<;>intro h
 ·refine R<|V 1 Z<|P<|ay<|bu<|aU ?_
  cases h
  exact az Z Z ⟨Z,a⟩
 refine R<|V 2 Z<|P ?_
 apply gl9 Z h<;>intro h
 ·refine R<|V 1 Z<|P<|ay<|bu<|aU ?_
  cases h
  exact az Z Z ⟨Z,a⟩
 refine cd<|aF<|ak<|R<|V 1 Z<|P<|ay ?_
 cases h
 exact az Z Z ⟨Z,a⟩
theorem mw {m:World} {a0:L1} {f:Value} (a1:Int) {r:L1}
  (h:F.GR a0 a1=some r) (y:RP [] m e8 f a0):Calls Tryz.prog 163 #[f,I a1] m (Ret fun v w=>St [] m w [U e8 v r]):=by
 refine aB 43 Tryz.func163 Z Z Z<|have a:=St.k m;ax [(0,f),(1,I a1)] Z ?_
 unfold F.GR at h
 refine R<|V 1 Z<|gl2<|V 1 Z<|gl2<|V 2 Z<|J h fun an B h=>bC (jm u24 ti5 Z Z Z a (y.b a.fr) B) Z fun ao w a=>V 1 Z<|gl2<|V 1 Z<|bC (cq (e:=e8) (l:=[128]) (vs:=[v8 128]) u24 ti5 Z Z Z Z (by decide) (by decide) a) Z fun ap w a=>J h fun T C h=>bC (dN u24 ti5 Z Z Z a (i:=1) Z (a.ro 0 Z) C) Z fun z w a=>V 1 Z<|gl1<|aq<|ax [(0,f),(1,I a1),(5,z)] Z ?_
 refine aT (F.FW a0 a1) (fun (s:L1) L w=>∃(d:Value),L=[(0,f),(1,I a1),(5,d)]/\St [] m w [U e8 d s]) ?_ T ⟨z,Z,(a.d [1] Z Z)⟩ h
 rintro ab A L w ac n o h j
 try dsimp only at n
 obtain⟨d,rfl,a⟩:=n
 unfold F.FW at h
 refine aw<|R<|V 1 Z<|N (aC u24 Z (a.ro 0 Z)) Z<|V 1 Z<|c7 h fun p h=>N (aj Z Z (fO _ (A.length:Int) a1 p)) Z<|V 3 Z<|P ?_
 apply gl9 Z h<;>intro h
 ·exact gl5<|aq<|al<|V 1 Z<|bC (cq (e:=e8) (l:=[0]) (vs:=[v8 0]) u24 ti5 Z Z Z Z (by decide) (by decide) a) Z fun ad w a=>J h fun D q h=>bC (dN u24 ti5 Z Z Z a (i:=1) Z (a.ro 0 Z) q) Z fun E w a=>V 1 Z<|aE<|aF<|bd (bc (o D _ _ ⟨E,Z,(a.d [1] Z Z)⟩ (aK h j)) Z)
 refine aQ<|av<|av<|have h:=aI h j;aR<|ak<|R<|V 1 Z<|N (aC u24 Z (y.b a.fr)) Z<|N (aD Z (dC u3 u119 (a0.length:Int))) Z<|N (aj Z Z (gD _ (UInt64.ofInt (a0.length:Int)) 8)) Z<|aZ h fun b t h=>N (ba (v:=v64 b) (by rw[<-t]; rfl)) Z<|gl1<|R<|V 1 Z<|P<|aq<|ax [(5,d),(6,v64 b),(7,I 7)] Z ?_
 refine aT (F.FQ b) (fun (s:L1×Int) L w=>∃(g:Value),L=[(5,g),(6,v64 b),(7,I s.2)]/\St [] m w [U e8 g s.1]) ?_ (A,7) ⟨d,Z,a⟩ h
 rintro ae ⟨ah,c⟩ L w H n u h k
 try dsimp only at n
 obtain⟨g,rfl,a⟩:=n
 unfold F.FQ at h
 refine aw<|R<|V 2 Z<|P ?_
 apply gl9 Z h<;>intro h
 ·exact gl5<|aw<|aq<|al<|V 3 Z<|N (aj Z Z (el _ 8 c)) Z<|N (aD Z (dC u3 u87 (wI (8*c)))) Z<|N (aj Z Z (cf _ b (UInt64.ofInt (wI (8*c))))) Z<|N (aj Z Z (eu _ (aO b ((UInt64.ofInt (wI (8*c))).toNat)) 255)) Z<|N (aD Z (jQ u119 Tryz.underlying5 ((aO b ((UInt64.ofInt (wI (8*c))).toNat)) &&& 255))) Z<|bC (cq (e:=e8) (l:=[((aO b ((UInt64.ofInt (wI (8*c))).toNat)) &&& 255).toUInt8]) (vs:=[v8 (((aO b ((UInt64.ofInt (wI (8*c))).toNat)) &&& 255).toUInt8)]) u24 ti5 Z Z Z Z (by decide) (by decide) a) Z fun am w a=>J h fun G x h=>bC (dN u24 ti5 Z Z Z a (i:=1) Z (a.ro 0 Z) x) Z fun S w a=>V 1 Z<|aE<|aF<|ak<|al<|V 3 Z<|aE<|bd (bc (u (G,wI (c - 1)) _ _ ⟨S,Z,(a.d [1] Z Z)⟩ (aK h k)) Z)
 refine aQ<|av<|av<|have h:=aI h k;aR<|ak<|R<|V 2 Z<|P<|ay ?_
 cases h
 exact az Z Z (a.d [0] Z Z)
theorem dS {a:World} (a0:UInt32) (a1:Int) {r:UInt32}
  (h:F.Dt a0 a1=some r) :Calls Tryz.prog 164 #[v32 a0,I a1] a (Ret fun v w=>v=v32 r/\St [] a w []):=by
 refine aB 15 Tryz.func164 Z Z Z<|have b:=St.k a;ax [(0,v32 a0),(1,I a1)] Z ?_
 unfold F.Dt at h
 refine R<|V 1 Z<|gl2<|V 2 Z<|N (aD Z (dC u3 u87 a1)) Z<|N (aj Z Z (cO _ a0 (UInt64.ofInt a1))) Z<|V 3 Z<|N (aD Z (dC u3 u87 (wI (32 - a1)))) Z<|N (aj Z Z (ei _ a0 (UInt64.ofInt (wI (32 - a1))))) Z<|N (aj Z Z (eB _ (bA a0 ((UInt64.ofInt a1).toNat)) (bP a0 ((UInt64.ofInt (wI (32 - a1))).toNat)))) Z<|V 1 Z<|P<|ay ?_
 cases h
 exact az Z Z ⟨Z,b⟩
theorem sw {z:World} {a0:L1} {cd:Value} {r:L1}
  (h:F.If a0=some r) (hT:TB [] z) (cW:RP [] z e8 cd a0):Calls Tryz.prog 131 #[cd] z (Ret fun v w=>St [] z w [U e8 v r]):=by
 refine aB 231 Tryz.func131 Z Z Z<|have a:=St.k z;ax [(0,cd)] Z ?_
 unfold F.If at h
 refine R<|V 1 Z<|gl2<|N (fK (us:=X.fl F.DF) u154 Z kv (bh (show F.DF.length=8 from Z) Z) Z (hT.ref4_start256.cells a.fr)) Z<|bg (bb (cs:=X.fl (List.replicate 8 0)) Af (by kernel_rfl) a) Z fun f w a=>bo (dt (m:=8) (xs:=X.fl (List.replicate 8 0)) (xs':=X.fl F.DF) (i:=0) Z kv Z Z Z Up.last (bh List.length_replicate Z) (bh (show F.DF.length=8 from Z) Z) gi a) fun w a=>gl2<|V 1 Z<|J h fun y cJ h=>aV a Z (mw 64 cJ (cW.b a.fr).rp) Z fun k w a=>V 1 Z<|gl1<|R<|V 1 Z<|P<|aq<|ax [(3,O f 0),(4,k),(5,I 0)] Z ?_
 refine aT (F.Gr y) (fun (s:Int×L0) L w=>L=[(3,O f 0),(4,k),(5,I s.1)]/\s.2.length=8/\St [] z w [Y f (X.fl s.2),U e8 k y]) ?_ (0,F.DF) ⟨Z,(show F.DF.length=8 from Z),(a.d [1,0] Z Z)⟩ h
 rintro cY ⟨A,q⟩ L w c2 E cl h ce
 try dsimp only at E
 obtain⟨rfl,B,a⟩:=E
 unfold F.Gr at h
 refine aw<|R<|V 2 Z<|N (aC u24 Z (a.ro 1 Z)) Z<|V 1 Z<|P ?_
 apply gl9 Z h<;>intro h
 ·refine gl5<|aw<|aq<|R<|bg (bb (cs:=X.fl (List.replicate 64 0)) AD (by kernel_rfl) a) Z fun p w a=>gl1<|R<|V 1 Z<|P<|aq<|ax [(3,O f 0),(4,k),(5,I A),(6,O p 0),(7,I 0)] Z ?_
  refine aT (F.FH y A q) (fun (s:Int×L0) L w=>L=[(3,O f 0),(4,k),(5,I A),(6,O p 0),(7,I s.1)]/\s.2.length=64/\St [] z w [Y f (X.fl q),U e8 k y,Y p (X.fl s.2)]) ?_ (0,(List.replicate 64 0)) ⟨Z,List.length_replicate,(a.d [1,2,0] Z Z)⟩ h
  rintro c3 ⟨aU,G⟩ L w cK E cm h bs
  try dsimp only at E
  obtain⟨rfl,t,a⟩:=E
  unfold F.FH at h
  refine aw<|R<|V 2 Z<|P ?_
  apply gl9 Z h<;>intro h
  ·refine gl5 ?_
   refine a8 (r:=cK) (fun (g:L0) L w=>L=[(3,O f 0),(4,k),(5,I A),(6,O p 0),(7,I aU)]/\g.length=64/\St [] z w [Y f (X.fl q),U e8 k y,Y p (X.fl g)]) (F.Gp aU) ?_ ?_
   rotate_left
   ·intro bt
    refine aq<|aw<|R<|V 2 Z<|P ?_
    apply gl9 Z h<;>intro h
    ·refine R<|V 2 Z<|N (aj Z Z (el _ 4 aU)) Z<|V 1 Z<|aZ h fun cL cn h=>N (ba (v:=I cL) (by rw[<-cn]; rfl)) Z<|gl1<|dk (fun w'=>St [] z w' [Y f (X.fl q),U e8 k y,Y p (X.fl G)]) (fun i=>!([31].contains i)) bQ (fun _ _ _ u=>u.2) (fun _ _ u=>u) (by kernel_rfl)<|have a:=a.drew;show lxE _ _ _ _ _ _ _ [0,1,2,3,4,5,6,7,8,9,10,11,12,13,14,15,16,17,18,19,20,21,22,23,24,25,26,27,28,29,30,31] _ _ from ao 3 Z a<|J h fun S bu h=>H a Z Z (fun w b=>bk u24 ti5 Z Z (b.ro 1 Z) bu) Z<|H a Z Z (fun w b=>a9 Tryz.underlying5 Z Z (b.ro 1 Z) bu Z) Z<|H a Z Z (fun w b=>aD Z (fv Tryz.underlying5 u38 S)) Z<|H a Z Z (fun w b=>aj Z Z (ei _ S.toUInt32 24)) Z<|ao 3 Z a<|J h fun T bv h=>H a Z Z (fun w b=>bk u24 ti5 Z Z (b.ro 1 Z) bv) Z<|H a Z Z (fun w b=>a9 Tryz.underlying5 Z Z (b.ro 1 Z) bv Z) Z<|H a Z Z (fun w b=>aD Z (fv Tryz.underlying5 u38 T)) Z<|H a Z Z (fun w b=>aj Z Z (ei _ T.toUInt32 16)) Z<|H a Z Z (fun w b=>aj Z Z (eB _ (bP S.toUInt32 24) (bP T.toUInt32 16))) Z<|ao 3 Z a<|J h fun ar bw h=>H a Z Z (fun w b=>bk u24 ti5 Z Z (b.ro 1 Z) bw) Z ?_
     refine H a Z Z (fun w b=>a9 Tryz.underlying5 Z Z (b.ro 1 Z) bw Z) Z<|H a Z Z (fun w b=>aD Z (fv Tryz.underlying5 u38 ar)) Z<|H a Z Z (fun w b=>aj Z Z (ei _ ar.toUInt32 8)) Z<|H a Z Z (fun w b=>aj Z Z (eB _ ((bP S.toUInt32 24) ||| (bP T.toUInt32 16)) (bP ar.toUInt32 8))) Z<|ao 3 Z a<|J h fun bi bz h=>H a Z Z (fun w b=>bk u24 ti5 Z Z (b.ro 1 Z) bz) Z<|H a Z Z (fun w b=>a9 Tryz.underlying5 Z Z (b.ro 1 Z) bz Z) Z<|H a Z Z (fun w b=>aD Z (fv Tryz.underlying5 u38 bi)) Z<|H a Z Z (fun w b=>aj Z Z (eB _ (((bP S.toUInt32 24) ||| (bP T.toUInt32 16)) ||| (bP ar.toUInt32 8)) bi.toUInt32)) Z<|J h fun c4 bB h=>H a Z Z (fun w b=>a7 u165 cE Z Z (aW bB t)) Z<|f9 a Z Z (dt (m:=1) Z cE Z Z Z (Up.elt (t':=((((bP S.toUInt32 24) ||| (bP T.toUInt32 16)) ||| (bP ar.toUInt32 8)) ||| bi.toUInt32)) Up.last bB Z Z) Z Z (eD Z) a (i:=2)) fun w a=>aZ h fun cM bC h=>?_
     rw[bC]at a
     exact bp trivial<|ak<|aQ<|av<|aR<|ak<|aG (bt cM _ _ ⟨Z,(by rw[<-bC,List.length_set]; exact t),a⟩ h) Z
    refine gl6<|V 2 Z<|J h fun C bD h=>N (a7 u165 cE Z Z (aW bD t)) Z<|N (au u38 Z Z (a.r 2 Z (Up.elr Up.last bD Z))) Z<|V 1 Z<|gl2<|V 2 Z<|J h fun ab bE h=>N (a7 u165 cE Z Z (aW bE t)) Z<|N (au u38 Z Z (a.r 2 Z (Up.elr Up.last bE Z))) Z<|V 1 Z<|P<|dk (fun w'=>St [] z w' [Y f (X.fl q),U e8 k y,Y p (X.fl G)]) (fun i=>!([6,8,20,22,29].contains i)) bQ (fun _ _ _ u=>u.2) (fun _ _ u=>u) (by kernel_rfl)<|have a:=a.drew;show lxE _ _ _ _ _ _ _ [0,1,2,3,4,5,6,7,8,9,10,11,12,13,14,15,16,17,18,19,20,21,22,23,24,25,26,27,28,29] _ _ from ao 3 Z a<|J h fun a1 bF h=>H a Z Z (fun w b=>a7 u165 cE Z Z (aW bF t)) Z<|H a Z Z (fun w b=>au u38 Z Z (b.r 2 Z (Up.elr Up.last bF Z))) Z<|ao 1 Z a<|J h fun ac co h=>aY a Z Z (by kernel_rfl) Z (dS C 7 co ) Z ?_
    rintro _ w ⟨rfl,n⟩
    have a:=a.e n
    refine ao 1 Z a<|J h fun ad cp h=>aY a Z Z (by kernel_rfl) Z (dS C 18 cp ) Z ?_
    rintro _ w ⟨rfl,n⟩
    have a:=a.e n
    refine H a Z Z (fun w b=>aj Z Z (di _ ac ad)) Z<|ao 1 Z a<|H a Z Z (fun w b=>aj Z Z (cO _ C 3)) Z<|H a Z Z (fun w b=>aj Z Z (di _ (ac ^^^ ad) (bA C 3))) Z<|H a Z Z (fun w b=>aj Z Z (cZ _ a1 ((ac ^^^ ad) ^^^ (bA C 3)))) Z<|ao 2 Z a<|J h fun bj bG h=>H a Z Z (fun w b=>a7 u165 cE Z Z (aW bG t)) Z<|H a Z Z (fun w b=>au u38 Z Z (b.r 2 Z (Up.elr Up.last bG Z))) Z<|H a Z Z (fun w b=>aj Z Z (cZ _ (a1+((ac ^^^ ad) ^^^ (bA C 3))) bj)) Z<|ao 1 Z a<|J h fun a2 cr h=>aY a Z Z (by kernel_rfl) Z (dS ab 17 cr ) Z ?_
    rintro _ w ⟨rfl,n⟩
    have a:=a.e n
    refine ao 1 Z a<|J h fun a3 ct h=>aY a Z Z (by kernel_rfl) Z (dS ab 19 ct ) Z ?_
    rintro _ w ⟨rfl,n⟩
    have a:=a.e n
    refine H a Z Z (fun w b=>aj Z Z (di _ a2 a3)) Z<|ao 1 Z a<|H a Z Z (fun w b=>aj Z Z (cO _ ab 10)) Z<|H a Z Z (fun w b=>aj Z Z (di _ (a2 ^^^ a3) (bA ab 10))) Z<|H a Z Z (fun w b=>aj Z Z (cZ _ ((a1+((ac ^^^ ad) ^^^ (bA C 3)))+bj) ((a2 ^^^ a3) ^^^ (bA ab 10)))) Z<|J h fun c5 bH h=>H a Z Z (fun w b=>a7 u165 cE Z Z (aW bH t)) Z<|f9 a Z Z (dt (m:=1) Z cE Z Z Z (Up.elt (t':=(((a1+((ac ^^^ ad) ^^^ (bA C 3)))+bj)+((a2 ^^^ a3) ^^^ (bA ab 10)))) Up.last bH Z Z) Z Z (eD Z) a (i:=2)) fun w a=>aZ h fun cN bI h=>?_
    rw[bI]at a
    exact bp trivial<|aF<|ak<|aG (bt cN _ _ ⟨Z,(by rw[<-bI,List.length_set]; exact t),a⟩ h) Z
   rintro cP L w hJ h
   try dsimp only at hJ
   obtain⟨rfl,cu,a⟩:=hJ
   unfold F.Gp at h
   exact al<|V 3 Z<|aE<|bd (bc (cm (wI (aU+1),cP) _ _ ⟨Z,cu,a⟩ (aK h bs)) Z)
  refine aQ<|av<|av<|have h:=aI h bs;aR<|ak<|R<|N (fK (us:=X.fl q) u154 Z kv (bh B Z) Z (a.bxgs0 0 Z Up.last)) Z<|bg (bb (cs:=X.fl (List.replicate 8 0)) Af (by kernel_rfl) a) Z fun x w a=>bo (dt (m:=8) (xs:=X.fl (List.replicate 8 0)) (xs':=X.fl q) (i:=0) Z kv Z Z Z Up.last (bh List.length_replicate Z) (bh B Z) gi a) fun w a=>gl1<|R<|V 1 Z<|P<|aq<|ax [(3,O f 0),(4,k),(5,I A),(6,O p 0),(11,O x 0),(12,I 0)] Z ?_
  refine aT (F.HQ q G A) (fun (s:Int×L0) L w=>L=[(3,O f 0),(4,k),(5,I A),(6,O p 0),(11,O x 0),(12,I s.1)]/\s.2.length=8/\St [] z w [Y f (X.fl q),U e8 k y,Y p (X.fl G),Y x (X.fl s.2)]) ?_ (0,q) ⟨Z,B,(a.d [1,2,3,0] Z Z)⟩ h
  rintro c6 ⟨cQ,ae⟩ L w c7 E cv h bJ
  try dsimp only at E
  obtain⟨rfl,c,a⟩:=E
  unfold F.HQ at h
  refine aw<|R<|V 2 Z<|P ?_
  apply gl9 Z h<;>intro h
  ·refine gl5<|aw<|aq<|R<|J h fun j bK h=>N (a7 u154 cE Z Z (aW bK c)) Z<|N (au u38 Z Z (a.r 3 Z (Up.elr Up.last bK Z))) Z<|V 1 Z<|gl2<|J h fun d bL h=>N (a7 u154 cE Z Z (aW bL c)) Z<|N (au u38 Z Z (a.r 3 Z (Up.elr Up.last bL Z))) Z<|V 1 Z<|gl1<|aX (fun w'=>St [] z w' [Y f (X.fl q),U e8 k y,Y p (X.fl G),Y x (X.fl ae)]) (fun i=>!([3,5,8].contains i)) bQ (fun _ _ _ u=>u.2) (fun _ _ u=>u) (by kernel_rfl)<|have a:=a.drew;show lxE _ _ _ _ _ _ _ [0,1,2,3,4,5,6,7,8,9,10,11,12,13,14,15,16,17,18,19,20,21,22,23,24,25,26,27,28,29,30] _ _ from J h fun a4 bM h=>H a Z Z (fun w b=>a7 u154 cE Z Z (aW bM c)) Z<|H a Z Z (fun w b=>au u38 Z Z (b.r 3 Z (Up.elr Up.last bM Z))) Z<|ao 1 Z a<|J h fun ah cw h=>aY a Z Z (by kernel_rfl) Z (dS d 6 cw ) Z ?_
   rintro _ w ⟨rfl,n⟩
   have a:=a.e n
   refine ao 1 Z a<|J h fun am cx h=>aY a Z Z (by kernel_rfl) Z (dS d 11 cx ) Z ?_
   rintro _ w ⟨rfl,n⟩
   have a:=a.e n
   refine H a Z Z (fun w b=>aj Z Z (di _ ah am)) Z<|ao 1 Z a<|J h fun aA cy h=>aY a Z Z (by kernel_rfl) Z (dS d 25 cy ) Z ?_
   rintro _ w ⟨rfl,n⟩
   have a:=a.e n
   refine H a Z Z (fun w b=>aj Z Z (di _ (ah ^^^ am) aA)) Z<|H a Z Z (fun w b=>aj Z Z (cZ _ a4 ((ah ^^^ am) ^^^ aA))) Z<|ao 1 Z a<|J h fun aH bN h=>H a Z Z (fun w b=>a7 u154 cE Z Z (aW bN c)) Z<|H a Z Z (fun w b=>au u38 Z Z (b.r 3 Z (Up.elr Up.last bN Z))) Z<|H a Z Z (fun w b=>aj Z Z (eO _ d aH)) Z<|ao 1 Z a<|H a Z Z (fun w b=>jV Z (qo d)) Z<|J h fun aJ bO h=>H a Z Z (fun w b=>a7 u154 cE Z Z (aW bO c)) Z<|H a Z Z (fun w b=>au u38 Z Z (b.r 3 Z (Up.elr Up.last bO Z))) Z<|H a Z Z (fun w b=>aj Z Z (eO _ (~~~ d) aJ)) Z<|H a Z Z (fun w b=>aj Z Z (di _ (d &&& aH) ((~~~ d) &&& aJ))) Z<|H a Z Z (fun w b=>aj Z Z (cZ _ (a4+((ah ^^^ am) ^^^ aA)) ((d &&& aH) ^^^ ((~~~ d) &&& aJ)))) Z<|ao 1 Z a<|J h fun cf bR h=>H a Z Z (fun w b=>a7 u165 cE Z Z (aW bR (show F.DV.length=64 from Z))) Z<|H a Z Z (fun w b=>au u38 Z Z (hT.ref4_k256.cell b.fr bR Z)) Z<|H a Z Z (fun w b=>aj Z Z (cZ _ ((a4+((ah ^^^ am) ^^^ aA))+((d &&& aH) ^^^ ((~~~ d) &&& aJ))) cf)) Z<|ao 1 Z a ?_
   refine J h fun cR bS h=>H a Z Z (fun w b=>a7 u165 cE Z Z (aW bS t)) Z<|H a Z Z (fun w b=>au u38 Z Z (b.r 2 Z (Up.elr Up.last bS Z))) Z<|H a Z Z (fun w b=>aj Z Z (cZ _ (((a4+((ah ^^^ am) ^^^ aA))+((d &&& aH) ^^^ ((~~~ d) &&& aJ)))+cf) cR)) Z<|aZ h fun o cz h=>H a Z Z (fun w b=>ba (v:=v32 o) (by rw[<-cz]; rfl)) Z<|bp a<|ak<|aw<|aX (fun w'=>St [] z w' [Y f (X.fl q),U e8 k y,Y p (X.fl G),Y x (X.fl ae)]) (fun i=>!([1,3,6].contains i)) bQ (fun _ _ _ u=>u.2) (fun _ _ u=>u) (by kernel_rfl)<|have a:=a.drew;show lxE _ _ _ _ _ _ _ [0,1,2,3,4,5,6,7,8,9,10,11,12,13,14,15,16,17,18,19,20,21,22,23,24] _ _ from ao 1 Z a<|J h fun bl cA h=>aY a Z Z (by kernel_rfl) Z (dS j 2 cA ) Z ?_
   rintro _ w ⟨rfl,n⟩
   have a:=a.e n
   refine ao 1 Z a<|J h fun bm cB h=>aY a Z Z (by kernel_rfl) Z (dS j 13 cB ) Z ?_
   rintro _ w ⟨rfl,n⟩
   have a:=a.e n
   refine H a Z Z (fun w b=>aj Z Z (di _ bl bm)) Z<|ao 1 Z a<|J h fun cg cC h=>aY a Z Z (by kernel_rfl) Z (dS j 22 cC ) Z ?_
   rintro _ w ⟨rfl,n⟩
   have a:=a.e n
   refine H a Z Z (fun w b=>aj Z Z (di _ (bl ^^^ bm) cg)) Z<|ao 1 Z a<|J h fun a5 bT h=>H a Z Z (fun w b=>a7 u154 cE Z Z (aW bT c)) Z<|H a Z Z (fun w b=>au u38 Z Z (b.r 3 Z (Up.elr Up.last bT Z))) Z<|H a Z Z (fun w b=>aj Z Z (eO _ j a5)) Z<|ao 1 Z a<|J h fun a6 bU h=>H a Z Z (fun w b=>a7 u154 cE Z Z (aW bU c)) Z<|H a Z Z (fun w b=>au u38 Z Z (b.r 3 Z (Up.elr Up.last bU Z))) Z<|H a Z Z (fun w b=>aj Z Z (eO _ j a6)) Z<|H a Z Z (fun w b=>aj Z Z (di _ (j &&& a5) (j &&& a6))) Z<|J h fun bn bV h=>H a Z Z (fun w b=>a7 u154 cE Z Z (aW bV c)) Z<|H a Z Z (fun w b=>au u38 Z Z (b.r 3 Z (Up.elr Up.last bV Z))) Z<|J h fun bq bW h=>H a Z Z (fun w b=>a7 u154 cE Z Z (aW bW c)) Z<|H a Z Z (fun w b=>au u38 Z Z (b.r 3 Z (Up.elr Up.last bW Z))) Z<|H a Z Z (fun w b=>aj Z Z (eO _ bn bq)) Z<|H a Z Z (fun w b=>aj Z Z (di _ ((j &&& a5) ^^^ (j &&& a6)) (bn &&& bq))) Z<|H a Z Z (fun w b=>aj Z Z (cZ _ ((bl ^^^ bm) ^^^ cg) (((j &&& a5) ^^^ (j &&& a6)) ^^^ (bn &&& bq)))) Z ?_
   refine aZ h fun D cD h=>H a Z Z (fun w b=>ba (v:=v32 D) (by rw[<-cD]; rfl)) Z<|bp a<|ak<|al<|V 2 Z<|N (aj Z Z (cZ _ o D)) Z<|V 1 Z<|J h fun aL bX h=>N (a7 u154 cE Z Z (aW bX c)) Z<|N (au u38 Z Z (a.r 3 Z (Up.elr Up.last bX Z))) Z<|J h fun aM bY h=>N (a7 u154 cE Z Z (aW bY c)) Z<|N (au u38 Z Z (a.r 3 Z (Up.elr Up.last bY Z))) Z<|J h fun an bZ h=>N (a7 u154 cE Z Z (aW bZ c)) Z<|N (au u38 Z Z (a.r 3 Z (Up.elr Up.last bZ Z))) Z<|V 1 Z<|N (aj Z Z (cZ _ an o)) Z<|V 1 Z<|J h fun aN b0 h=>N (a7 u154 cE Z Z (aW b0 c)) Z<|N (au u38 Z Z (a.r 3 Z (Up.elr Up.last b0 Z))) Z<|J h fun aO b1 h=>N (a7 u154 cE Z Z (aW b1 c)) Z<|N (au u38 Z Z (a.r 3 Z (Up.elr Up.last b1 Z))) Z<|N (cb (vs:=[(0,v32 (o+D),[v32 (o+D)]),(1,v32 j,[v32 j]),(2,v32 aL,[v32 aL]),(3,v32 aM,[v32 aM]),(4,v32 (an+o),[v32 (an+o)]),(5,v32 d,[v32 d]),(6,v32 aN,[v32 aN]),(7,v32 aO,[v32 aO])]) (cells:=[v32 (o+D),v32 j,v32 aL,v32 aM,v32 (an+o),v32 d,v32 aN,v32 aO]) Z x6 ⟨Z,Z,Z,Z,Z,Z,Z,Z,trivial⟩ (by kernel_rfl)) Z ?_
   exact bo (dt (m:=8) (xs:=X.fl ae) (xs':=X.fl ([o+D,j,aL,aM,an+o,d,aN,aO]:L0)) (i:=3) Z kv Z Z Z Up.last (bh c Z) (bh Z Z) gi a) fun w a=>aE<|aF<|ak<|al<|V 3 Z<|aE<|bd (bc (cv (wI (cQ+1),([o+D,j,aL,aM,an+o,d,aN,aO]:L0)) _ _ ⟨Z,Z,a⟩ (aK h bJ)) Z)
  refine aQ<|av<|av<|have h:=aI h bJ;aR<|ak<|R<|V 1 Z<|P<|aq<|ax [(3,O f 0),(4,k),(5,I A),(11,O x 0),(17,I 0)] Z ?_
  refine aT (F.Fs A ae) (fun (s:Int×L0) L w=>L=[(3,O f 0),(4,k),(5,I A),(11,O x 0),(17,I s.1)]/\s.2.length=8/\St [] z w [Y f (X.fl s.2),U e8 k y,Y x (X.fl ae)]) ?_ (0,q) ⟨Z,B,(a.d [0,1,3] Z Z)⟩ h
  rintro c8 ⟨cS,ch⟩ L w c9 E cF h b2
  try dsimp only at E
  obtain⟨rfl,ap,a⟩:=E
  unfold F.Fs at h
  refine aw<|R<|V 2 Z<|P ?_
  apply gl9 Z h<;>intro h
  ·refine gl5<|aw<|aq<|dk (fun w'=>St [] z w' [Y f (X.fl ch),U e8 k y,Y x (X.fl ae)]) (fun i=>!([9].contains i)) bQ (fun _ _ _ u=>u.2) (fun _ _ u=>u) (by kernel_rfl)<|have a:=a.drew;show lxE _ _ _ _ _ _ _ [0,1,2,3,4,5,6,7,8,9] _ _ from ao 2 Z a<|J h fun ci b3 h=>H a Z Z (fun w b=>a7 u154 cE Z Z (aW b3 ap)) Z<|H a Z Z (fun w b=>au u38 Z Z (b.r 0 Z (Up.elr Up.last b3 Z))) Z<|ao 1 Z a<|J h fun cj b4 h=>H a Z Z (fun w b=>a7 u154 cE Z Z (aW b4 c)) Z<|H a Z Z (fun w b=>au u38 Z Z (b.r 2 Z (Up.elr Up.last b4 Z))) Z<|H a Z Z (fun w b=>aj Z Z (cZ _ ci cj)) Z<|J h fun da b5 h=>H a Z Z (fun w b=>a7 u154 cE Z Z (aW b5 ap)) Z<|f9 a Z Z (dt (m:=1) Z cE Z Z Z (Up.elt (t':=(ci+cj)) Up.last b5 Z Z) Z Z (eD Z) a (i:=0)) fun w a=>aZ h fun cT b6 h=>?_
   rw[b6]at a
   exact bp trivial<|aF<|ak<|al<|V 3 Z<|aE<|bd (bc (cF (wI (cS+1),cT) _ _ ⟨Z,(by rw[<-b6,List.length_set]; exact ap),a⟩ (aK h b2)) Z)
  exact aQ<|av<|av<|have h:=aI h b2;aR<|aF<|ak<|al<|V 3 Z<|aE<|bd (bc (cl (wI (A+64),ch) _ _ ⟨Z,ap,(a.d [0,1] Z Z)⟩ (aK h ce)) Z)
 refine aQ<|av<|av<|have h:=aI h ce;aR<|ak<|R<|V 1 Z<|gl1<|R<|V 1 Z<|P<|aq<|ax [(3,O f 0),(18,.slice none 0 0),(19,I 0)] Z ?_
 refine aT (F.Gj q) (fun (s:L1×Int) L w=>∃(br:Value),L=[(3,O f 0),(18,br),(19,I s.2)]/\St [] z w [U e8 br s.1,Y f (X.fl q)]) ?_ ([],0) ⟨L3,Z,((a.nil e8).d [0,1] Z Z)⟩ h
 rintro c0 ⟨db,cU⟩ L w dc E cG h b7
 try dsimp only at E
 obtain⟨br,rfl,a⟩:=E
 unfold F.Gj at h
 refine aw<|R<|V 2 Z<|P ?_
 apply gl9 Z h<;>intro h
 ·refine gl5<|aw<|aq<|have hsh0:=(a.ro 0 Z).shp;aX (fun w'=>St [] z w' [Y f (X.fl q)]) (fun i=>!([23,24].contains i)) bQ (fun _ _ _ u=>u.2) (fun _ _ u=>u) (by kernel_rfl)<|have a:=a.drew;show lxE _ _ _ _ _ _ _ [0,1,2,3,4,5,6,7,8,9,10,11,12,13,14,15,16,17,18,19,20,21,22,23,24,25] _ _ from ao 2 Z (a.d [1] Z Z)<|J h fun be b8 h=>H (a.d [1] Z Z) Z Z (fun w b=>a7 u154 cE Z Z (aW b8 B)) Z<|H (a.d [1] Z Z) Z Z (fun w b=>au u38 Z Z (b.r 0 Z (Up.elr Up.last b8 Z))) Z<|H (a.d [1] Z Z) Z Z (fun w b=>aj Z Z (cO _ be 24)) Z<|H (a.d [1] Z Z) Z Z (fun w b=>aD Z (fM u38 Tryz.underlying5 (bA be 24))) Z<|ao 1 Z (a.d [1] Z Z)<|J h fun aP b9 h=>H (a.d [1] Z Z) Z Z (fun w b=>a7 u154 cE Z Z (aW b9 B)) Z<|H (a.d [1] Z Z) Z Z (fun w b=>au u38 Z Z (b.r 0 Z (Up.elr Up.last b9 Z))) Z<|H (a.d [1] Z Z) Z Z (fun w b=>aj Z Z (cO _ aP 16)) Z<|H (a.d [1] Z Z) Z Z (fun w b=>aj Z Z (eO _ (bA aP 16) 255)) Z<|H (a.d [1] Z Z) Z Z (fun w b=>aD Z (fM u38 Tryz.underlying5 ((bA aP 16) &&& 255))) Z<|ao 1 Z (a.d [1] Z Z)<|J h fun aS ca h=>H (a.d [1] Z Z) Z Z (fun w b=>a7 u154 cE Z Z (aW ca B)) Z ?_
  refine H (a.d [1] Z Z) Z Z (fun w b=>au u38 Z Z (b.r 0 Z (Up.elr Up.last ca Z))) Z<|H (a.d [1] Z Z) Z Z (fun w b=>aj Z Z (cO _ aS 8)) Z<|H (a.d [1] Z Z) Z Z (fun w b=>aj Z Z (eO _ (bA aS 8) 255)) Z<|H (a.d [1] Z Z) Z Z (fun w b=>aD Z (fM u38 Tryz.underlying5 ((bA aS 8) &&& 255))) Z<|ao 1 Z (a.d [1] Z Z)<|J h fun bf cc h=>H (a.d [1] Z Z) Z Z (fun w b=>a7 u154 cE Z Z (aW cc B)) Z<|H (a.d [1] Z Z) Z Z (fun w b=>au u38 Z Z (b.r 0 Z (Up.elr Up.last cc Z))) Z<|H (a.d [1] Z Z) Z Z (fun w b=>aj Z Z (eO _ bf 255)) Z<|H (a.d [1] Z Z) Z Z (fun w b=>aD Z (fM u38 Tryz.underlying5 (bf &&& 255))) Z<|wJ (a.d [1] Z Z) Z Z (cq (e:=e8) (l:=[(bA be 24).toUInt8,((bA aP 16) &&& 255).toUInt8,((bA aS 8) &&& 255).toUInt8,(bf &&& 255).toUInt8]) (vs:=[v8 ((bA be 24).toUInt8),v8 (((bA aP 16) &&& 255).toUInt8),v8 (((bA aS 8) &&& 255).toUInt8),v8 ((bf &&& 255).toUInt8)]) u24 ti5 Z Z Z Z (by decide) (by decide) a) Z fun c1 w a=>J h fun cH ck h=>wJ (a.d [2] Z Z) Z Z (dN u24 ti5 Z Z Z a (i:=1) Z (a.ro 0 Z) ck) Z fun cI w a=>ao 1 Z (a.d [2] Z Z)<|bp (a.d [2] Z Z) ?_
  exact aF<|ak<|al<|V 3 Z<|aE<|bd (bc (cG (cH,wI (cU+1)) _ _ ⟨cI,Z,(a.d [1,2] Z Z)⟩ (aK h b7)) Z)
 refine aQ<|av<|av<|have h:=aI h b7;aR<|ak<|R<|V 2 Z<|P<|ay ?_
 cases h
 exact az Z Z (a.d [0] Z Z)
theorem dT {a:World} (a0:UInt64) (a1:Int) {r:UInt64}
  (h:F.Dy a0 a1=some r) :Calls Tryz.prog 165 #[v64 a0,I a1] a (Ret fun v w=>v=v64 r/\St [] a w []):=by
 refine aB 15 Tryz.func165 Z Z Z<|have b:=St.k a;ax [(0,v64 a0),(1,I a1)] Z ?_
 unfold F.Dy at h
 refine R<|V 1 Z<|gl2<|V 2 Z<|N (aD Z (dC u3 u87 a1)) Z<|N (aj Z Z (cf _ a0 (UInt64.ofInt a1))) Z<|V 3 Z<|N (aD Z (dC u3 u87 (wI (64 - a1)))) Z<|N (aj Z Z (du _ a0 (UInt64.ofInt (wI (64 - a1))))) Z<|N (aj Z Z (fo _ (aO a0 ((UInt64.ofInt a1).toNat)) (bH a0 ((UInt64.ofInt (wI (64 - a1))).toNat)))) Z<|V 1 Z<|P<|ay ?_
 cases h
 exact az Z Z ⟨Z,b⟩
set_option maxHeartbeats 8000000 in
theorem oE {C:World} {a0:L1} {cv:Value} (y:List UInt64) {r:L1}
  (h:F.HC a0 y=some r) (hT:TB [] C) (cw:RP [] C e8 cv a0) (cK:y.length=8):Calls Tryz.prog 132 #[cv,.agg (e64.fl y).toArray] C (Ret fun v w=>St [] C w [U e8 v r]):=by
 refine aB 242 Tryz.func132 Z Z Z<|have a:=St.k C;ax [(0,cv),(1,.agg (e64.fl y).toArray)] Z ?_
 unfold F.HC at h
 refine R<|bg (cg (cs:=e64.fl y) Z Z a) Z fun c w a=>V 1 Z<|gl2<|V 1 Z<|J h fun br dc h=>aV a Z (mw 128 dc (cw.b a.fr).rp) Z fun a5 w a=>V 1 Z<|P ?_
 refine a8 (r:=r) (fun (g:L1) L w=>∃(d:Value),L=[(3,O c 0),(5,d)]/\St [] C w [U e8 d g,Y c (e64.fl y)]) (F.FL y) ?_ ?_
 rotate_left
 ·intro bV
  refine a8 (r:=r) (fun (g:Bool) L w=>L=[(3,O c 0),(5,a5),(35,K g)]/\St [] C w [Y c (e64.fl y),U e8 a5 br]) (F.Ik br y) ?_ ?_
  rotate_left
  ·intro cx
   refine al<|V 1 Z<|N (aC u24 Z (cw.b a.fr)) Z<|N (aj Z Z (fO _ (a0.length:Int) 128 (by decide))) Z<|V 2 Z ?_
   cases a6:(decide ((112:Int)<=(Int.tmod (a0.length:Int) 128)))
   case true=>
    have h:=cz h a6
    try simp only[a6]
    exact V 1 Z<|bB (t:=30) Z Z (aC u24 Z (cw.b a.fr)) Z<|bB (t:=30) Z Z (aj Z Z (fO _ (a0.length:Int) 128 (by decide))) Z<|V 2 Z<|P<|aG (cx (decide ((Int.tmod (a0.length:Int) 128)<120)) _ _ ⟨Z,(a.d [1,0] Z Z)⟩ h) Z
   case false=>
    have h:=cA h a6
    try simp only[a6]
    exact V 5 Z<|P<|aG (cx false _ _ ⟨Z,(a.d [1,0] Z Z)⟩ h) Z
  rintro dV L w hJ h
  try dsimp only at hJ
  obtain⟨rfl,a⟩:=hJ
  unfold F.Ik at h
  apply gl9 Z h<;>intro h
  ·refine R<|V 1 Z<|gl2<|V 3 Z<|N (aC u24 Z (a.ro 1 Z)) Z<|V 1 Z<|c7 h fun cy h=>N (jH u24 ti5 Z Z (a.ro 1 Z) (gu cy)) Z<|J h fun dd cL h=>bC (jm u24 ti5 Z Z Z a ((a.ro 1 Z).tk cy.2) cL) Z fun cB w a=>V 1 Z<|gl1<|R<|V 1 Z<|P<|aq<|ax [(3,O c 0),(5,a5),(6,cB),(7,I 0)] Z ?_
   refine aT (F.F0 br y) (fun (s:L1×Int) L w=>∃(bN:Value),L=[(3,O c 0),(5,a5),(6,bN),(7,I s.2)]/\St [] C w [U e8 bN s.1,Y c (e64.fl y),U e8 a5 br]) ?_ (dd,0) ⟨cB,Z,a⟩ h
   rintro dI ⟨dJ,de⟩ L w dK z cM h bW
   try dsimp only at z
   obtain⟨bN,rfl,a⟩:=z
   unfold F.F0 at h
   refine aw<|R<|V 2 Z<|P ?_
   apply gl9 Z h<;>intro h
   ·exact gl5<|aw<|aq<|al<|V 1 Z<|bC (cq (e:=e8) (l:=[0]) (vs:=[v8 0]) u24 ti5 Z Z Z Z (by decide) (by decide) a) Z fun dL w a=>J h fun df cN h=>bC (dN u24 ti5 Z Z Z a (i:=1) Z (a.ro 0 Z) cN) Z fun dg w a=>V 1 Z<|aE<|aF<|ak<|al<|V 3 Z<|aE<|bd (bc (cM (df,wI (de+1)) _ _ ⟨dg,Z,(a.d [1,2,3] Z Z)⟩ (aK h bW)) Z)
   exact aQ<|av<|av<|have h:=aI h bW;aR<|ak<|al<|V 3 Z<|N (aC u24 Z (a.ro 2 Z)) Z<|V 1 Z<|J h fun dM bX h=>N (pr u24 ti5 Z Z (a.ro 2 Z) bX) Z<|J h fun dh cO h=>bC (dN u24 ti5 Z Z Z a (i:=0) Z ((a.ro 2 Z).g_sll bX) cO) Z fun di w a=>V 1 Z<|P<|aG (bV dh _ _ ⟨di,Z,(a.d [0,1] Z Z)⟩ h) Z
  exact gl5<|aG (bV br _ _ ⟨a5,Z,(a.d [1,0] Z Z)⟩ h) Z
 rintro p L w hJ h
 try dsimp only at hJ
 obtain⟨d,rfl,a⟩:=hJ
 unfold F.FL at h
 refine aw<|R<|V 1 Z<|P<|aq<|ax [(3,O c 0),(5,d),(8,I 0)] Z ?_
 refine aT (F.HT p) (fun (s:Int×List UInt64) L w=>L=[(3,O c 0),(5,d),(8,I s.1)]/\s.2.length=8/\St [] C w [Y c (e64.fl s.2),U e8 d p]) ?_ (0,y) ⟨Z,cK,(a.d [1,0] Z Z)⟩ h
 rintro dv ⟨q,k⟩ L w dO z cP h bY
 try dsimp only at z
 obtain⟨rfl,ac,a⟩:=z
 unfold F.HT at h
 refine aw<|R<|V 2 Z<|N (aC u24 Z (a.ro 1 Z)) Z<|V 1 Z<|P ?_
 apply gl9 Z h<;>intro h
 ·refine gl5<|aw<|aq<|R<|bg (bb (cs:=e64.fl (List.replicate 80 0)) At (by kernel_rfl) a) Z fun o w a=>gl1<|R<|V 1 Z<|P<|aq<|ax [(3,O c 0),(5,d),(8,I q),(9,O o 0),(10,I 0)] Z ?_
  refine aT (F.FX k p q) (fun (s:Int×List UInt64) L w=>L=[(3,O c 0),(5,d),(8,I q),(9,O o 0),(10,I s.1)]/\s.2.length=80/\St [] C w [Y c (e64.fl k),U e8 d p,Y o (e64.fl s.2)]) ?_ (0,(List.replicate 80 0)) ⟨Z,List.length_replicate,(a.d [1,2,0] Z Z)⟩ h
  rintro dw ⟨ab,aA⟩ L w dj z cQ h bZ
  try dsimp only at z
  obtain⟨rfl,A,a⟩:=z
  unfold F.FX at h
  refine aw<|R<|V 2 Z<|P ?_
  apply gl9 Z h<;>intro h
  ·refine gl5 ?_
   refine a8 (r:=dj) (fun (g:List UInt64) L w=>L=[(3,O c 0),(5,d),(8,I q),(9,O o 0),(10,I ab)]/\g.length=80/\St [] C w [Y c (e64.fl k),U e8 d p,Y o (e64.fl g)]) (F.GL ab) ?_ ?_
   rotate_left
   ·intro b0
    refine aq<|aw<|R<|V 2 Z<|P ?_
    apply gl9 Z h<;>intro h
    ·refine aw<|R<|V 1 Z<|P<|aq<|ax [(3,O c 0),(5,d),(8,I q),(9,O o 0),(10,I ab),(11,I 0)] Z ?_
     refine aT (F.Ge p q ab) (fun (s:Int×List UInt64) L w=>L=[(3,O c 0),(5,d),(8,I q),(9,O o 0),(10,I ab),(11,I s.1)]/\s.2.length=80/\St [] C w [Y c (e64.fl k),U e8 d p,Y o (e64.fl s.2)]) ?_ (0,aA) ⟨Z,A,a⟩ h
     rintro dP ⟨dl,cC⟩ L w dQ z cR h b1
     try dsimp only at z
     obtain⟨rfl,aS,a⟩:=z
     unfold F.Ge at h
     refine aw<|R<|V 2 Z<|P ?_
     apply gl9 Z h<;>intro h
     ·refine gl5<|aw<|aq<|dk (fun w'=>St [] C w' [Y c (e64.fl k),U e8 d p,Y o (e64.fl cC)]) (fun i=>!([17].contains i)) bQ (fun _ _ _ D=>D.2) (fun _ _ D=>D) (by kernel_rfl)<|have a:=a.drew;show lxE _ _ _ _ _ _ _ [0,1,2,3,4,5,6,7,8,9,10,11,12,13,14,15,16,17] _ _ from ao 2 Z a<|J h fun bO b2 h=>H a Z Z (fun w b=>a7 u167 ce Z Z (aW b2 aS)) Z<|H a Z Z (fun w b=>au u119 Z Z (b.r 2 Z (Up.elr Up.last b2 Z))) Z<|H a Z Z (fun w b=>aj Z Z (du _ bO 8)) Z<|ao 3 Z a<|H a Z Z (fun w b=>aj Z Z (el _ 8 ab)) Z<|ao 3 Z a<|J h fun bP b3 h=>H a Z Z (fun w b=>bk u24 ti5 Z Z (b.ro 1 Z) b3) Z<|H a Z Z (fun w b=>a9 Tryz.underlying5 Z Z (b.ro 1 Z) b3 Z) Z<|H a Z Z (fun w b=>aD Z (qI Tryz.underlying5 u119 bP)) Z<|H a Z Z (fun w b=>aj Z Z (fo _ (bH bO 8) bP.toUInt64)) Z<|J h fun dR b4 h=>H a Z Z (fun w b=>a7 u167 ce Z Z (aW b4 aS)) Z<|f9 a Z Z (dt (m:=1) Z ce Z Z Z (Up.elt (t':=((bH bO 8) ||| bP.toUInt64)) Up.last b4 Z Z) Z Z (eD Z) a (i:=2)) fun w a=>aZ h fun dm b5 h=>?_
      rw[b5]at a
      exact bp trivial<|aF<|ak<|al<|V 3 Z<|aE<|bd (bc (cR (wI (dl+1),dm) _ _ ⟨Z,(by rw[<-b5,List.length_set]; exact aS),a⟩ (aK h b1)) Z)
     exact aQ<|av<|av<|have h:=aI h b1;aR<|ak<|aQ<|av<|aR<|ak<|aG (b0 cC _ _ ⟨Z,aS,a⟩ h) Z
    refine gl6<|V 2 Z<|J h fun S b6 h=>N (a7 u167 ce Z Z (aW b6 A)) Z<|N (au u119 Z Z (a.r 2 Z (Up.elr Up.last b6 Z))) Z<|V 1 Z<|gl2<|V 2 Z<|J h fun aH b7 h=>N (a7 u167 ce Z Z (aW b7 A)) Z<|N (au u119 Z Z (a.r 2 Z (Up.elr Up.last b7 Z))) Z<|V 1 Z<|P<|dk (fun w'=>St [] C w' [Y c (e64.fl k),U e8 d p,Y o (e64.fl aA)]) (fun i=>!([6,8,20,22,29].contains i)) bQ (fun _ _ _ D=>D.2) (fun _ _ D=>D) (by kernel_rfl)<|have a:=a.drew;show lxE _ _ _ _ _ _ _ [0,1,2,3,4,5,6,7,8,9,10,11,12,13,14,15,16,17,18,19,20,21,22,23,24,25,26,27,28,29] _ _ from ao 3 Z a<|J h fun be b8 h=>H a Z Z (fun w b=>a7 u167 ce Z Z (aW b8 A)) Z<|H a Z Z (fun w b=>au u119 Z Z (b.r 2 Z (Up.elr Up.last b8 Z))) Z<|ao 1 Z a<|J h fun aJ cS h=>aY a Z Z (by kernel_rfl) Z (dT S 1 cS ) Z ?_
    rintro _ w ⟨rfl,u⟩
    have a:=a.e u
    refine ao 1 Z a<|J h fun aL cT h=>aY a Z Z (by kernel_rfl) Z (dT S 8 cT ) Z ?_
    rintro _ w ⟨rfl,u⟩
    have a:=a.e u
    refine H a Z Z (fun w b=>aj Z Z (dr _ aJ aL)) Z<|ao 1 Z a<|H a Z Z (fun w b=>aj Z Z (cf _ S 7)) Z<|H a Z Z (fun w b=>aj Z Z (dr _ (aJ ^^^ aL) (aO S 7))) Z<|H a Z Z (fun w b=>aj Z Z (bT _ be ((aJ ^^^ aL) ^^^ (aO S 7)))) Z<|ao 2 Z a<|J h fun bR b9 h=>H a Z Z (fun w b=>a7 u167 ce Z Z (aW b9 A)) Z<|H a Z Z (fun w b=>au u119 Z Z (b.r 2 Z (Up.elr Up.last b9 Z))) Z<|H a Z Z (fun w b=>aj Z Z (bT _ (be+((aJ ^^^ aL) ^^^ (aO S 7))) bR)) Z<|ao 1 Z a<|J h fun bf cU h=>aY a Z Z (by kernel_rfl) Z (dT aH 19 cU ) Z ?_
    rintro _ w ⟨rfl,u⟩
    have a:=a.e u
    refine ao 1 Z a<|J h fun bi cV h=>aY a Z Z (by kernel_rfl) Z (dT aH 61 cV ) Z ?_
    rintro _ w ⟨rfl,u⟩
    have a:=a.e u
    refine H a Z Z (fun w b=>aj Z Z (dr _ bf bi)) Z<|ao 1 Z a<|H a Z Z (fun w b=>aj Z Z (cf _ aH 6)) Z<|H a Z Z (fun w b=>aj Z Z (dr _ (bf ^^^ bi) (aO aH 6))) Z<|H a Z Z (fun w b=>aj Z Z (bT _ ((be+((aJ ^^^ aL) ^^^ (aO S 7)))+bR) ((bf ^^^ bi) ^^^ (aO aH 6)))) Z<|J h fun dS ca h=>H a Z Z (fun w b=>a7 u167 ce Z Z (aW ca A)) Z<|f9 a Z Z (dt (m:=1) Z ce Z Z Z (Up.elt (t':=(((be+((aJ ^^^ aL) ^^^ (aO S 7)))+bR)+((bf ^^^ bi) ^^^ (aO aH 6)))) Up.last ca Z Z) Z Z (eD Z) a (i:=2)) fun w a=>aZ h fun dn cc h=>?_
    rw[cc]at a
    exact bp trivial<|aF<|ak<|aG (b0 dn _ _ ⟨Z,(by rw[<-cc,List.length_set]; exact A),a⟩ h) Z
   rintro dp L w hJ h
   try dsimp only at hJ
   obtain⟨rfl,cW,a⟩:=hJ
   unfold F.GL at h
   exact al<|V 3 Z<|aE<|bd (bc (cQ (wI (ab+1),dp) _ _ ⟨Z,cW,a⟩ (aK h bZ)) Z)
  refine aQ<|av<|av<|have h:=aI h bZ;aR<|ak<|R<|N (fK (us:=e64.fl k) u143 Z i8 (bh ac Z) Z (a.bxgs0 0 Z Up.last)) Z<|bg (bb (cs:=e64.fl (List.replicate 8 0)) Da (by kernel_rfl) a) Z fun E w a=>bo (dt (m:=8) (xs:=e64.fl (List.replicate 8 0)) (xs':=e64.fl k) (i:=0) Z i8 Z Z Z Up.last (bh List.length_replicate Z) (bh ac Z) gi a) fun w a=>gl1<|R<|V 1 Z<|P<|aq<|ax [(3,O c 0),(5,d),(8,I q),(9,O o 0),(14,O E 0),(15,I 0)] Z ?_
  refine aT (F.Ht k aA q) (fun (s:Int×List UInt64) L w=>L=[(3,O c 0),(5,d),(8,I q),(9,O o 0),(14,O E 0),(15,I s.1)]/\s.2.length=8/\St [] C w [Y c (e64.fl k),U e8 d p,Y o (e64.fl aA),Y E (e64.fl s.2)]) ?_ (0,k) ⟨Z,ac,(a.d [1,2,3,0] Z Z)⟩ h
  rintro dx ⟨dq,aM⟩ L w dU z cX h cd
  try dsimp only at z
  obtain⟨rfl,f,a⟩:=z
  unfold F.Ht at h
  refine aw<|R<|V 2 Z<|P ?_
  apply gl9 Z h<;>intro h
  ·refine gl5<|aw<|aq<|R<|J h fun n ch h=>N (a7 u143 ce Z Z (aW ch f)) Z<|N (au u119 Z Z (a.r 3 Z (Up.elr Up.last ch Z))) Z<|V 1 Z<|gl2<|J h fun j ci h=>N (a7 u143 ce Z Z (aW ci f)) Z<|N (au u119 Z Z (a.r 3 Z (Up.elr Up.last ci Z))) Z<|V 1 Z<|gl1<|aX (fun w'=>St [] C w' [Y c (e64.fl k),U e8 d p,Y o (e64.fl aA),Y E (e64.fl aM)]) (fun i=>!([3,5,8].contains i)) bQ (fun _ _ _ D=>D.2) (fun _ _ D=>D) (by kernel_rfl)<|have a:=a.drew;show lxE _ _ _ _ _ _ _ [0,1,2,3,4,5,6,7,8,9,10,11,12,13,14,15,16,17,18,19,20,21,22,23,24,25,26,27,28,29,30] _ _ from J h fun bj cj h=>H a Z Z (fun w b=>a7 u143 ce Z Z (aW cj f)) Z<|H a Z Z (fun w b=>au u119 Z Z (b.r 3 Z (Up.elr Up.last cj Z))) Z<|ao 1 Z a<|J h fun aN cY h=>aY a Z Z (by kernel_rfl) Z (dT j 14 cY ) Z ?_
   rintro _ w ⟨rfl,u⟩
   have a:=a.e u
   refine ao 1 Z a<|J h fun aP cZ h=>aY a Z Z (by kernel_rfl) Z (dT j 18 cZ ) Z ?_
   rintro _ w ⟨rfl,u⟩
   have a:=a.e u
   refine H a Z Z (fun w b=>aj Z Z (dr _ aN aP)) Z<|ao 1 Z a<|J h fun a2 c0 h=>aY a Z Z (by kernel_rfl) Z (dT j 41 c0 ) Z ?_
   rintro _ w ⟨rfl,u⟩
   have a:=a.e u
   refine H a Z Z (fun w b=>aj Z Z (dr _ (aN ^^^ aP) a2)) Z<|H a Z Z (fun w b=>aj Z Z (bT _ bj ((aN ^^^ aP) ^^^ a2))) Z<|ao 1 Z a<|J h fun a3 ck h=>H a Z Z (fun w b=>a7 u143 ce Z Z (aW ck f)) Z<|H a Z Z (fun w b=>au u119 Z Z (b.r 3 Z (Up.elr Up.last ck Z))) Z<|H a Z Z (fun w b=>aj Z Z (eu _ j a3)) Z<|ao 1 Z a<|H a Z Z (fun w b=>jV Z (Bz j)) Z<|J h fun a4 cl h=>H a Z Z (fun w b=>a7 u143 ce Z Z (aW cl f)) Z<|H a Z Z (fun w b=>au u119 Z Z (b.r 3 Z (Up.elr Up.last cl Z))) Z<|H a Z Z (fun w b=>aj Z Z (eu _ (~~~ j) a4)) Z<|H a Z Z (fun w b=>aj Z Z (dr _ (j &&& a3) ((~~~ j) &&& a4))) Z<|H a Z Z (fun w b=>aj Z Z (bT _ (bj+((aN ^^^ aP) ^^^ a2)) ((j &&& a3) ^^^ ((~~~ j) &&& a4)))) Z<|ao 1 Z a<|J h fun cD cm h=>H a Z Z (fun w b=>a7 u167 ce Z Z (aW cm (show F.DU.length=80 from Z))) Z<|H a Z Z (fun w b=>au u119 Z Z (hT.ref4_k512.cell b.fr cm Z)) Z<|H a Z Z (fun w b=>aj Z Z (bT _ ((bj+((aN ^^^ aP) ^^^ a2))+((j &&& a3) ^^^ ((~~~ j) &&& a4))) cD)) Z ?_
   refine ao 1 Z a<|J h fun ds cn h=>H a Z Z (fun w b=>a7 u167 ce Z Z (aW cn A)) Z<|H a Z Z (fun w b=>au u119 Z Z (b.r 2 Z (Up.elr Up.last cn Z))) Z<|H a Z Z (fun w b=>aj Z Z (bT _ (((bj+((aN ^^^ aP) ^^^ a2))+((j &&& a3) ^^^ ((~~~ j) &&& a4)))+cD) ds)) Z<|aZ h fun x c1 h=>H a Z Z (fun w b=>ba (v:=v64 x) (by rw[<-c1]; rfl)) Z<|bp a<|ak<|aw<|aX (fun w'=>St [] C w' [Y c (e64.fl k),U e8 d p,Y o (e64.fl aA),Y E (e64.fl aM)]) (fun i=>!([1,3,6].contains i)) bQ (fun _ _ _ D=>D.2) (fun _ _ D=>D) (by kernel_rfl)<|have a:=a.drew;show lxE _ _ _ _ _ _ _ [0,1,2,3,4,5,6,7,8,9,10,11,12,13,14,15,16,17,18,19,20,21,22,23,24] _ _ from ao 1 Z a<|J h fun bS c2 h=>aY a Z Z (by kernel_rfl) Z (dT n 28 c2 ) Z ?_
   rintro _ w ⟨rfl,u⟩
   have a:=a.e u
   refine ao 1 Z a<|J h fun bU c3 h=>aY a Z Z (by kernel_rfl) Z (dT n 34 c3 ) Z ?_
   rintro _ w ⟨rfl,u⟩
   have a:=a.e u
   refine H a Z Z (fun w b=>aj Z Z (dr _ bS bU)) Z<|ao 1 Z a<|J h fun cE c4 h=>aY a Z Z (by kernel_rfl) Z (dT n 39 c4 ) Z ?_
   rintro _ w ⟨rfl,u⟩
   have a:=a.e u
   refine H a Z Z (fun w b=>aj Z Z (dr _ (bS ^^^ bU) cE)) Z<|ao 1 Z a<|J h fun bl co h=>H a Z Z (fun w b=>a7 u143 ce Z Z (aW co f)) Z<|H a Z Z (fun w b=>au u119 Z Z (b.r 3 Z (Up.elr Up.last co Z))) Z<|H a Z Z (fun w b=>aj Z Z (eu _ n bl)) Z<|ao 1 Z a<|J h fun bm cp h=>H a Z Z (fun w b=>a7 u143 ce Z Z (aW cp f)) Z<|H a Z Z (fun w b=>au u119 Z Z (b.r 3 Z (Up.elr Up.last cp Z))) Z<|H a Z Z (fun w b=>aj Z Z (eu _ n bm)) Z<|H a Z Z (fun w b=>aj Z Z (dr _ (n &&& bl) (n &&& bm))) Z<|J h fun bn bt h=>H a Z Z (fun w b=>a7 u143 ce Z Z (aW bt f)) Z<|H a Z Z (fun w b=>au u119 Z Z (b.r 3 Z (Up.elr Up.last bt Z))) Z<|J h fun bq bu h=>H a Z Z (fun w b=>a7 u143 ce Z Z (aW bu f)) Z<|H a Z Z (fun w b=>au u119 Z Z (b.r 3 Z (Up.elr Up.last bu Z))) Z<|H a Z Z (fun w b=>aj Z Z (eu _ bn bq)) Z<|H a Z Z (fun w b=>aj Z Z (dr _ ((n &&& bl) ^^^ (n &&& bm)) (bn &&& bq))) Z<|H a Z Z (fun w b=>aj Z Z (bT _ ((bS ^^^ bU) ^^^ cE) (((n &&& bl) ^^^ (n &&& bm)) ^^^ (bn &&& bq)))) Z ?_
   refine aZ h fun G cF h=>H a Z Z (fun w b=>ba (v:=v64 G) (by rw[<-cF]; rfl)) Z<|bp a<|ak<|al<|V 2 Z<|N (aj Z Z (bT _ x G)) Z<|V 1 Z<|J h fun ad bv h=>N (a7 u143 ce Z Z (aW bv f)) Z<|N (au u119 Z Z (a.r 3 Z (Up.elr Up.last bv Z))) Z<|J h fun ae bw h=>N (a7 u143 ce Z Z (aW bw f)) Z<|N (au u119 Z Z (a.r 3 Z (Up.elr Up.last bw Z))) Z<|J h fun T bz h=>N (a7 u143 ce Z Z (aW bz f)) Z<|N (au u119 Z Z (a.r 3 Z (Up.elr Up.last bz Z))) Z<|V 1 Z<|N (aj Z Z (bT _ T x)) Z<|V 1 Z<|J h fun ah bA h=>N (a7 u143 ce Z Z (aW bA f)) Z<|N (au u119 Z Z (a.r 3 Z (Up.elr Up.last bA Z))) Z<|J h fun am bD h=>N (a7 u143 ce Z Z (aW bD f)) Z<|N (au u119 Z Z (a.r 3 Z (Up.elr Up.last bD Z))) Z<|N (cb (vs:=[(0,v64 (x+G),[v64 (x+G)]),(1,v64 n,[v64 n]),(2,v64 ad,[v64 ad]),(3,v64 ae,[v64 ae]),(4,v64 (T+x),[v64 (T+x)]),(5,v64 j,[v64 j]),(6,v64 ah,[v64 ah]),(7,v64 am,[v64 am])]) (cells:=[v64 (x+G),v64 n,v64 ad,v64 ae,v64 (T+x),v64 j,v64 ah,v64 am]) Z yH ⟨Z,Z,Z,Z,Z,Z,Z,Z,trivial⟩ (by kernel_rfl)) Z ?_
   exact bo (dt (m:=8) (xs:=e64.fl aM) (xs':=e64.fl ([x+G,n,ad,ae,T+x,j,ah,am]:List UInt64)) (i:=3) Z i8 Z Z Z Up.last (bh f Z) (bh Z Z) gi a) fun w a=>aE<|aF<|ak<|al<|V 3 Z<|aE<|bd (bc (cX (wI (dq+1),([x+G,n,ad,ae,T+x,j,ah,am]:List UInt64)) _ _ ⟨Z,Z,a⟩ (aK h cd)) Z)
  refine aQ<|av<|av<|have h:=aI h cd;aR<|ak<|R<|V 1 Z<|P<|aq<|ax [(3,O c 0),(5,d),(8,I q),(14,O E 0),(20,I 0)] Z ?_
  refine aT (F.F8 q aM) (fun (s:Int×List UInt64) L w=>L=[(3,O c 0),(5,d),(8,I q),(14,O E 0),(20,I s.1)]/\s.2.length=8/\St [] C w [Y c (e64.fl s.2),U e8 d p,Y E (e64.fl aM)]) ?_ (0,k) ⟨Z,ac,(a.d [0,1,3] Z Z)⟩ h
  rintro dy ⟨c5,cr⟩ L w dz z cG h bE
  try dsimp only at z
  obtain⟨rfl,an,a⟩:=z
  unfold F.F8 at h
  refine aw<|R<|V 2 Z<|P ?_
  apply gl9 Z h<;>intro h
  ·refine gl5<|aw<|aq<|dk (fun w'=>St [] C w' [Y c (e64.fl cr),U e8 d p,Y E (e64.fl aM)]) (fun i=>!([9].contains i)) bQ (fun _ _ _ D=>D.2) (fun _ _ D=>D) (by kernel_rfl)<|have a:=a.drew;show lxE _ _ _ _ _ _ _ [0,1,2,3,4,5,6,7,8,9] _ _ from ao 2 Z a<|J h fun ct bF h=>H a Z Z (fun w b=>a7 u143 ce Z Z (aW bF an)) Z<|H a Z Z (fun w b=>au u119 Z Z (b.r 0 Z (Up.elr Up.last bF Z))) Z<|ao 1 Z a<|J h fun cu bG h=>H a Z Z (fun w b=>a7 u143 ce Z Z (aW bG f)) Z<|H a Z Z (fun w b=>au u119 Z Z (b.r 2 Z (Up.elr Up.last bG Z))) Z<|H a Z Z (fun w b=>aj Z Z (bT _ ct cu)) Z<|J h fun dA bI h=>H a Z Z (fun w b=>a7 u143 ce Z Z (aW bI an)) Z<|f9 a Z Z (dt (m:=1) Z ce Z Z Z (Up.elt (t':=(ct+cu)) Up.last bI Z Z) Z Z (eD Z) a (i:=0)) fun w a=>aZ h fun c6 bJ h=>?_
   rw[bJ]at a
   exact bp trivial<|aF<|ak<|al<|V 3 Z<|aE<|bd (bc (cG (wI (c5+1),c6) _ _ ⟨Z,(by rw[<-bJ,List.length_set]; exact an),a⟩ (aK h bE)) Z)
  exact aQ<|av<|av<|have h:=aI h bE;aR<|aF<|ak<|al<|V 3 Z<|aE<|bd (bc (cP (wI (q+128),cr) _ _ ⟨Z,an,(a.d [0,1] Z Z)⟩ (aK h bY)) Z)
 refine aQ<|av<|av<|have h:=aI h bY;aR<|ak<|R<|V 1 Z<|gl1<|R<|V 1 Z<|P<|aq<|ax [(3,O c 0),(21,.slice none 0 0),(22,I 0)] Z ?_
 refine aT (F.HK k) (fun (s:L1×Int) L w=>∃(ap:Value),L=[(3,O c 0),(21,ap),(22,I s.2)]/\St [] C w [U e8 ap s.1,Y c (e64.fl k)]) ?_ ([],0) ⟨L3,Z,((a.nil e8).d [0,1] Z Z)⟩ h
 rintro dB ⟨c8,aU⟩ L w dD z cH h bK
 try dsimp only at z
 obtain⟨ap,rfl,a⟩:=z
 unfold F.HK at h
 refine aw<|R<|V 2 Z<|P ?_
 apply gl9 Z h<;>intro h
 ·refine gl5<|aw<|aq<|R<|V 1 Z<|P<|aq<|ax [(3,O c 0),(21,ap),(22,I aU),(23,I 7)] Z ?_
  refine aT (F.GH k aU) (fun (s:L1×Int) L w=>∃(a1:Value),L=[(3,O c 0),(21,a1),(22,I aU),(23,I s.2)]/\St [] C w [U e8 a1 s.1,Y c (e64.fl k)]) ?_ (c8,7) ⟨ap,Z,a⟩ h
  rintro dE ⟨c9,B⟩ L w dF z cI h bL
  try dsimp only at z
  obtain⟨a1,rfl,a⟩:=z
  unfold F.GH at h
  refine aw<|R<|V 2 Z<|P ?_
  apply gl9 Z h<;>intro h
  ·exact gl5<|aw<|aq<|al<|V 2 Z<|J h fun ar bM h=>N (a7 u143 ce Z Z (aW bM ac)) Z<|N (au u119 Z Z (a.r 1 Z (Up.elr Up.last bM Z))) Z<|V 1 Z<|N (aj Z Z (el _ 8 B)) Z<|N (aD Z (dC u3 u87 (wI (8*B)))) Z<|N (aj Z Z (cf _ ar (UInt64.ofInt (wI (8*B))))) Z<|N (aj Z Z (eu _ (aO ar ((UInt64.ofInt (wI (8*B))).toNat)) 255)) Z<|N (aD Z (jQ u119 Tryz.underlying5 ((aO ar ((UInt64.ofInt (wI (8*B))).toNat)) &&& 255))) Z<|bC (cq (e:=e8) (l:=[((aO ar ((UInt64.ofInt (wI (8*B))).toNat)) &&& 255).toUInt8]) (vs:=[v8 (((aO ar ((UInt64.ofInt (wI (8*B))).toNat)) &&& 255).toUInt8)]) u24 ti5 Z Z Z Z (by decide) (by decide) a) Z fun dG w a=>J h fun da cJ h=>bC (dN u24 ti5 Z Z Z a (i:=1) Z (a.ro 0 Z) cJ) Z fun db w a=>V 1 Z<|aE<|aF<|ak<|al<|V 3 Z<|aE<|bd (bc (cI (da,wI (B - 1)) _ _ ⟨db,Z,(a.d [1,2] Z Z)⟩ (aK h bL)) Z)
  exact aQ<|av<|av<|have h:=aI h bL;aR<|aF<|ak<|al<|V 3 Z<|aE<|bd (bc (cH (c9,wI (aU+1)) _ _ ⟨a1,Z,a⟩ (aK h bK)) Z)
 refine aQ<|av<|av<|have h:=aI h bK;aR<|ak<|R<|V 2 Z<|P<|ay ?_
 cases h
 exact az Z Z (a.d [0] Z Z)
theorem vZ {b:World} {a1:L1} {c:Value} (a0:Int) {r:L1}
  (h:F.IK a0 a1=some r) (d:TB [] b) (e:RP [] b e8 c a1):Calls Tryz.prog 69 #[I a0,c] b (Ret fun v w=>St [] b w [U e8 v r]):=by
 refine aB 21 Tryz.func69 Z Z Z<|have a:=St.k b;ax [(0,I a0),(1,c)] Z ?_
 unfold F.IK at h
 refine R<|V 1 Z<|gl1<|R<|V 1 Z<|P<|aq<|R<|V 2 Z<|P ?_
 apply gl9 Z h<;>intro h
 ·refine R<|V 1 Z<|J h fun l g h=>aV a Z (sw  g (d.b a.fr) (e.b a.fr).rp) Z fun m w a=>V 1 Z<|P<|ay<|bu<|aU ?_
  cases h
  exact az Z Z (a.d [0] Z Z)
 refine R<|V 2 Z<|P ?_
 apply gl9 Z h<;>intro h
 ·refine R<|V 1 Z<|N (fK (us:=e64.fl F.DX) u143 Z i8 (bh (show F.DX.length=8 from Z) Z) Z (d.ref4_start384.cells a.fr)) Z<|J h fun n j h=>aV a Z (oE F.DX j (d.b a.fr) (e.b a.fr).rp (show F.DX.length=8 from Z)) Z fun o w a=>c7 h fun f h=>N (jH u24 ti5 Z Z (a.ro 0 Z) (gu f)) Z<|V 1 Z<|P<|ay<|bu<|aU ?_
  cases h
  replace a:=a.trunc (i:=0) rfl f.2
  exact az Z Z (a.d [0] Z Z)
 refine R<|V 2 Z<|P ?_
 apply gl9 Z h<;>intro h
 ·refine R<|V 1 Z<|N (fK (us:=e64.fl F.DO) u143 Z i8 (bh (show F.DO.length=8 from Z) Z) Z (d.ref4_start512.cells a.fr)) Z<|J h fun p k h=>aV a Z (oE F.DO k (d.b a.fr) (e.b a.fr).rp (show F.DO.length=8 from Z)) Z fun q w a=>V 1 Z<|P<|ay<|bu<|aU ?_
  cases h
  exact az Z Z (a.d [0] Z Z)
 refine cd<|aF<|ak<|R<|V 1 Z<|P<|ay ?_
 cases h
 exact az Z Z ((a.nil e8).d [0] Z Z)
end Go.Proofs
