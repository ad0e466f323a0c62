import Derived.Test.YtmegjloifgfldaaGreatDoorRW0
import Derived.Test.YtmegjloifgfldaaGreatDoorGkFman
import Derived.Test.YtmegjloifgfldaaGreatDoorRWbignuma
set_option linter.unusedVariables false
set_option linter.unusedSimpArgs false
set_option linter.unusedSectionVars false
set_option maxRecDepth 4000
namespace Go.Proofs
open Go Go.RowKit Go.Gk
open Go.Gk renaming aa -> V, af -> M, ag -> O, ai -> J, e32 -> X, gl3 -> Q, gl4 -> R, own -> U, pB -> P, vB -> N, vI -> H
open Nat renaming le_of_ble_eq_true -> W
open Go.Gk.OE renaming bx -> Y
theorem kL {B:World} {a0 a1:Q0} {bM bN:Value} {r:Q0×Q0}
  (h:F.Ia a0 a1=some r) (S:RP [] B X bM a0) (E:RP [] B X bN a1):Calls Tryz.prog 185 #[bM,bN] B (Ret fun v w=>∃u0 u1:Value,v=.tuple #[u0,u1]/\St [] B w [U X u0 r.1,U X u1 r.2]):=by
 refine ay 273 Tryz.func185 Z Z Z<|have a:=St.k B;ax [(0,bM),(1,bN)] Z ?_
 unfold F.Ia at h
 refine R<|V 2 Z<|gl1<|R<|V 1 Z<|O (aD u57 Z (E.b a.fr)) Z<|V 1 Z<|Q ?_
 apply gl9 Z h<;>intro h
 ·refine R<|V 2 Z<|gl8 ?_
  cases h
  exact bE Z Z Z ⟨Q3,Q3,Z,((a.nil X).nil X).d [1,0] Z Z⟩
 refine gl5<|az<|R<|V 2 Z<|M h fun dn cD h=>aS a Z (kM  cD (S.b a.fr).rp (E.b a.fr).rp) Z fun w a=>V 1 Z<|Q ?_
 apply gl9 Z h<;>intro h
 ·refine R<|V 1 Z<|M h fun dp cE h=>aM a Z (jY  cE (S.b a.fr).rp) Z fun cY w a=>V 2 Z<|gl8 ?_
  cases h
  exact bE Z Z Z ⟨Q3,cY,Z,(a.nil X).d [0,1] Z Z⟩
 refine gl5<|az<|R<|V 1 Z<|O (aD u57 Z (S.b a.fr)) Z<|V 1 Z<|Q ?_
 apply gl9 Z h<;>intro h
 ·refine R<|V 1 Z<|M h fun a4 cF h=>aS a Z (lN  cF (S.b a.fr).rp) Z fun w a=>V 1 Z<|M h fun a5 cG h=>aS a Z (lN  cG (E.b a.fr).rp) Z fun w a=>V 2 Z<|gl1<|aQ (fun w'=>St [] B w' []) (fun i=>!([3,7].contains i)) bK (fun _ _ _ y=>y.2) (fun _ _ y=>y) (by kernel_rfl)<|have a:=a.drew;show lxE _ _ _ _ _ _ _ [0,1,2,3,4,5,6,7,8,9] _ _ from an 2 Z a<|db h fun cH h=>J a Z Z (fun w k=>aj Z Z (jk _ a4 a5 cH)) Z<|M h fun dq cI h=>aY a Z Z (by kernel_rfl) Z (eQ (a4 / a5) cI ) Z fun cZ w A=>have a:=a.e A;an 2 Z (a.d [] Z Z)<|db h fun b3 h=>J (a.d [] Z Z) Z Z (fun w k=>aj Z Z (fp _ a4 a5 b3)) Z<|M h fun c9 b4 h=>aY (a.d [] Z Z) Z Z (by kernel_rfl) Z (eQ (a4%a5) b4 ) Z fun cJ w A=>have a:=a.e A;an 2 Z (a.d [] Z Z)<|a8 (a.d [] Z Z)<|am<|gl7 ?_
  cases h
  exact bE Z Z Z ⟨cZ,cJ,Z,a.d [1,0] Z Z⟩
 refine gl5<|az<|R<|V 1 Z<|O (aD u57 Z (E.b a.fr)) Z<|V 1 Z<|Q ?_
 apply gl9 Z h<;>intro h
 ·refine R<|V 2 Z<|M h fun cK a6 h=>O (bh u57 aL Z Z (E.b a.fr) a6) Z<|O (aX u106 Z Z (E.b a.fr) a6 Z) Z<|M h fun ae b5 h=>cU a Z (rL cK b5 (S.b a.fr).rp) Z fun bO w a=>V 5 Z<|gl2<|V 2 Z<|bn (bJ (e:=X) (l:=([ae.2]:Q0)) (vs:=[v32 ae.2]) u57 aL Z Z Z Z (by decide) (by decide) a) Z fun cL w a=>have hG:=a.pick (os':=[U X cL ([ae.2]:Q0)]++[U X bO ae.1]) [0,1] (by decide) Z;M h fun da b6 h=>aJ Z (dx  b6 hG.f ) Z ?_
  rintro cM w ⟨c2,bP,A⟩
  rw[<-bP]at A
  have a:=hG.g A
  refine V 2 Z<|gl8 ?_
  cases h
  exact bE Z Z Z ⟨bO,cM,Z,a.d [1,0] Z Z⟩
 refine gl6<|V 1 Z<|M h fun bQ b7 h=>aS a Z (i0  b7 (E.b a.fr).rp) Z fun w a=>V 1 Z<|O (aj Z Z (kN _ (wI (bQ - 1)) 32 (by decide))) Z<|V 2 Z<|O (aE Z (fv u3 u67 (wI ((wI (32 - (Int.tmod (wI (bQ - 1)) 32))) - 1)))) Z<|bg h fun n b8 h=>O (bd (v:=v64 n) (by rw[<-b8]; rfl)) Z<|gl2<|V 2 Z<|M h fun b b9 h=>aM a Z (jQ n b9 (E.b a.fr).rp) Z fun c w a=>V 1 Z<|gl2<|V 1 Z<|O (aD u57 Z (S.b a.fr)) Z<|V 1 Z<|M h fun dc cb h=>bn (cV (e:=X) u57 aL Z Z Z a cb) Z fun d w a=>V 1 Z<|gl2<|V 3 Z<|M h fun cN cc h=>aM a Z (jQ n cc (S.b a.fr).rp) Z fun cO w a=>bn (ry (e:=X) u57 aL Z Z Z a (i:=1) Z (a.ro 0 Z)) Z ?_
 rintro v_q w ⟨hv_q,a⟩
 subst v_q
 obtain⟨bR,cd,h⟩:=fD h
 rw[cd]at a
 refine gl2<|V 1 Z<|O (aD u57 Z (a.ro 2 Z)) Z<|V 1 Z<|gl2<|V 1 Z<|O (aD u57 Z (a.ro 1 Z)) Z<|V 3 Z<|bg h fun aC cg h=>O (bd (v:=H aC) (by rw[<-cg]; rfl)) Z<|gl2<|V 2 Z<|M h fun bS ch h=>bn (cV (e:=X) u57 aL Z Z Z a ch) Z fun j w a=>V 1 Z<|gl1<|aQ (fun w'=>St [] B w' [U X j bS,U X cO cN,U X d bR,U X c b]) (fun _=>true) bK (fun _ _ _ y=>y.2) (fun _ _ y=>y) (by kernel_rfl)<|have a:=a.drew;show lxE _ _ _ _ _ _ _ [0,1,2,3,4,5,6,7,8,9,10,11,12,13] _ _ from an 3 Z a<|M h fun f a9 h=>J a Z Z (fun w k=>bh u57 aL Z Z (k.ro 3 Z) a9) Z<|J a Z Z (fun w k=>aX u106 Z Z (k.ro 3 Z) a9 Z) Z<|J a Z Z (fun w k=>aE Z (bC u106 u103 f)) Z<|an 3 Z a<|M h fun m ba h=>J a Z Z (fun w k=>bh u57 aL Z Z (k.ro 3 Z) ba) Z<|J a Z Z (fun w k=>aX u106 Z Z (k.ro 3 Z) ba Z) Z<|J a Z Z (fun w k=>aE Z (bC u106 u103 m)) Z<|an 2 Z a<|a8 a<|am<|az<|R<|V 2 Z ?_
 refine Q<|av<|ax [(10,v64 n),(11,c),(12,d),(13,H (b.length:Int)),(15,j),(16,v64 f.toUInt64),(17,v64 m.toUInt64),(18,H aC)] Z ?_
 refine bf (F.IE n b f m) (fun (s:Int×Q0×Q0) L w=>L=[(10,v64 n),(11,c),(12,d),(13,H (b.length:Int)),(15,j),(16,v64 f.toUInt64),(17,v64 m.toUInt64),(18,H s.1)]/\St [] B w [U X c b,U X d s.2.1,U X j s.2.2]) ?_ (aC,bR,bS) ⟨Z,(a.d [3,2,0] Z Z)⟩ h
 rintro c3 ⟨o,q,p⟩ L w bT T ci h bb
 try dsimp only at T
 obtain⟨rfl,a⟩:=T
 unfold F.IE at h
 refine az<|R<|V 2 Z<|Q ?_
 apply gl9 Z h<;>intro h
 ·refine gl5<|az<|av<|az<|aQ (fun w'=>St [] B w' [U X c b,U X d q,U X j p]) (fun _=>true) bK (fun _ _ _ y=>y.2) (fun _ _ y=>y) (by kernel_rfl)<|have a:=a.drew;show lxE _ _ _ _ _ _ _ [0,1,2,3,4,5,6,7,8,9,10,11,12,13,14,15,16,17] _ _ from an 4 Z a<|M h fun aI bc h=>J a Z Z (fun w k=>bh u57 aL Z Z (k.ro 1 Z) bc) Z<|J a Z Z (fun w k=>aX u106 Z Z (k.ro 1 Z) bc Z) Z<|J a Z Z (fun w k=>aE Z (bC u106 u103 aI)) Z<|J a Z Z (fun w k=>aj Z Z (cp _ aI.toUInt64 32)) Z<|an 5 Z a<|M h fun bU be h=>J a Z Z (fun w k=>bh u57 aL Z Z (k.ro 1 Z) be) Z<|J a Z Z (fun w k=>aX u106 Z Z (k.ro 1 Z) be Z) Z<|J a Z Z (fun w k=>aE Z (bC u106 u103 bU)) Z<|J a Z Z (fun w k=>aj Z Z (dL _ (aF aI.toUInt64 32) bU.toUInt64)) Z<|bg h fun C cj h=>J a Z Z (fun w k=>bd (v:=v64 C) (by rw[<-cj]; rfl)) Z<|a8 a<|am<|az<|aQ (fun w'=>St [] B w' [U X c b,U X d q,U X j p]) (fun _=>true) bK (fun _ _ _ y=>y.2) (fun _ _ y=>y) (by kernel_rfl)<|have a:=a.drew;show lxE _ _ _ _ _ _ _ [0,1,2,3,4,5,6,7] _ _ from an 2 Z a ?_
  refine db h fun ck h=>J a Z Z (fun w k=>aj Z Z (jk _ C f.toUInt64 ck)) Z<|an 2 Z a<|db h fun cl h=>J a Z Z (fun w k=>aj Z Z (fp _ C f.toUInt64 cl)) Z<|an 2 Z a<|a8 a<|am ?_
  refine aU (r:=bT) (fun (g:UInt64) L w=>L=[(10,v64 n),(11,c),(12,d),(13,H (b.length:Int)),(15,j),(16,v64 f.toUInt64),(17,v64 m.toUInt64),(18,H o),(20,v64 g)]/\St [] B w [U X c b,U X d q,U X j p]) (F.Iu q b o p) ?_ ?_
  rotate_left
  ·intro bi
   refine av<|ax [(10,v64 n),(11,c),(12,d),(13,H (b.length:Int)),(15,j),(16,v64 f.toUInt64),(17,v64 m.toUInt64),(18,H o),(20,v64 (C / f.toUInt64)),(21,v64 (C%f.toUInt64))] Z ?_
   refine bf (F.IT b m o q f p) (fun (s:UInt64×UInt64) L w=>L=[(10,v64 n),(11,c),(12,d),(13,H (b.length:Int)),(15,j),(16,v64 f.toUInt64),(17,v64 m.toUInt64),(18,H o),(20,v64 s.1),(21,v64 s.2)]/\St [] B w [U X c b,U X d q,U X j p]) ?_ (C / f.toUInt64,C%f.toUInt64) ⟨Z,a⟩ h
   rintro dd ⟨u,z⟩ L w cP T cm h ah
   try dsimp only at T
   obtain⟨rfl,a⟩:=T
   unfold F.IT at h
   refine az ?_
   refine aU (r:=cP) (fun (g:Bool) L w=>L=[(10,v64 n),(11,c),(12,d),(13,H (b.length:Int)),(15,j),(16,v64 f.toUInt64),(17,v64 m.toUInt64),(18,H o),(20,v64 u),(21,v64 z),(154,N g)]/\St [] B w [U X c b,U X d q,U X j p]) (F.Hx f u z q b o p) ?_ ?_
   rotate_left
   ·intro bj
    refine al<|V 1 Z<|O (aj Z Z (l9 _ u 4294967295)) Z<|V 1 Z ?_
    cases G:(decide ((4294967295:UInt64)<u))
    case true=>
     have h:=bH h G
     try simp only[G]
     exact V 16 Z<|Q<|aB (bj true _ _ ⟨Z,a⟩ h) Z
    case false=>
     have h:=bI h G
     try simp only[G]
     exact V 2 Z<|aO (t:=138) Z Z (aj Z Z (js _ u m.toUInt64)) Z<|V 1 Z<|aO (t:=138) Z Z (aj Z Z (cp _ z 32)) Z<|V 5 Z<|M h fun ak bk h=>aO (t:=138) Z Z (bh u57 aL Z Z (a.ro 1 Z) bk) Z<|aO (t:=138) Z Z (aX u106 Z Z (a.ro 1 Z) bk Z) Z<|aO (t:=138) Z Z (aE Z (bC u106 u103 ak)) Z<|aO (t:=138) Z Z (aj Z Z (dL _ (aF z 32) ak.toUInt64)) Z<|aO (t:=138) Z Z (aj Z Z (l9 _ (u*m.toUInt64) ((aF z 32) ||| ak.toUInt64))) Z<|V 1 Z<|Q<|aB (bj (decide (((aF z 32) ||| ak.toUInt64)<(u*m.toUInt64))) _ _ ⟨Z,a⟩ h) Z
   rintro de L w hJ h
   try dsimp only at hJ
   obtain⟨rfl,a⟩:=hJ
   unfold F.Hx at h
   apply gl9 Z h<;>intro h
   ·refine gl5<|av<|R<|V 1 Z<|O (aj Z Z (fu _ u 1)) Z<|V 1 Z<|gl2<|V 2 Z<|O (aj Z Z (cC _ z f.toUInt64)) Z<|V 1 Z<|gl2<|V 1 Z<|O (aj Z Z (l9 _ (z+f.toUInt64) 4294967295)) Z<|Q ?_
    apply gl9 Z h<;>intro h
    ·exact aZ<|jp Z<|aA<|have h:=aR h ah;a7<|am<|aB (bi (u - 1) _ _ ⟨Z,a⟩ h) Z
    exact cf<|aH<|bo (br (cm (u - 1,z+f.toUInt64) _ _ ⟨Z,a⟩ (aW h ah)) Z)
   exact aZ<|aA<|aA<|have h:=aR h ah;a7<|am<|aB (bi u _ _ ⟨Z,a⟩ h) Z
  rintro x L w hJ h
  try dsimp only at hJ
  obtain⟨rfl,a⟩:=hJ
  unfold F.Iu at h
  refine R<|V 2 Z<|gl1<|R<|V 1 Z<|Q<|av<|ax [(10,v64 n),(11,c),(12,d),(13,H (b.length:Int)),(15,j),(16,v64 f.toUInt64),(17,v64 m.toUInt64),(18,H o),(20,v64 x),(22,v64 0),(23,v64 0),(24,H 0)] Z ?_
  refine bf (F.H8 b o x p) (fun (s:UInt64×UInt64×Int×Q0) L w=>L=[(10,v64 n),(11,c),(12,d),(13,H (b.length:Int)),(15,j),(16,v64 f.toUInt64),(17,v64 m.toUInt64),(18,H o),(20,v64 x),(22,v64 s.1),(23,v64 s.2.1),(24,H s.2.2.1)]/\St [] B w [U X c b,U X d s.2.2.2,U X j p]) ?_ (0,0,0,q) ⟨Z,a⟩ h
  rintro c4 ⟨aK,bV,cQ,df⟩ L w dg T cn h bl
  try dsimp only at T
  obtain⟨rfl,a⟩:=T
  unfold F.H8 at h
  refine az<|R<|V 3 Z<|Q ?_
  apply gl9 Z h<;>intro h
  ·refine gl5<|az<|av<|R<|V 4 Z<|M h fun aN bp h=>O (bh u57 aL Z Z (a.ro 0 Z) bp) Z<|O (aX u106 Z Z (a.ro 0 Z) bp Z) Z<|O (aE Z (bC u106 u103 aN)) Z<|O (aj Z Z (js _ x aN.toUInt64)) Z<|O (aj Z Z (cC _ aK (x*aN.toUInt64))) Z<|bg h fun D co h=>O (bd (v:=v64 D) (by rw[<-co]; rfl)) Z<|gl2<|V 4 Z<|M h fun aT bq h=>O (bh u57 aL Z Z (a.ro 1 Z) bq) Z<|O (aX u106 Z Z (a.ro 1 Z) bq Z) Z<|O (aE Z (bC u106 u103 aT)) Z<|V 1 Z<|O (aE Z (ce u103 u106 D)) Z<|O (aE Z (bC u106 u103 D.toUInt32)) Z<|O (aj Z Z (fu _ aT.toUInt64 D.toUInt32.toUInt64)) Z<|V 1 Z<|O (aj Z Z (fu _ (aT.toUInt64 - D.toUInt32.toUInt64) bV)) Z<|bg h fun ab cq h=>O (bd (v:=v64 ab) (by rw[<-cq]; rfl)) Z<|gl2<|V 5 Z<|O (aE Z (ce u103 u106 ab)) Z<|M h fun dh bs h=>O (bh u57 aL Z Z (a.ro 1 Z) bs) Z<|bm (bX (t:=ab.toUInt32) aL Z Z a (i:=1) Z bs Z) ?_
   intro w a
   obtain⟨cR,cr,h⟩:=fD h
   rw[cr]at a
   exact gl2<|V 1 Z<|O (aj Z Z (ca _ ab 63)) Z<|V 1 Z<|Q<|al<|V 1 Z<|O (aj Z Z (ca _ D 32)) Z<|V 1 Z<|aG<|aH<|am<|al<|V 3 Z<|aG<|bo (br (cn (aP D 32,aP ab 63,wI (cQ+1),cR) _ _ ⟨Z,a⟩ (aW h bl)) Z)
  refine aZ<|aA<|aA<|have h:=aR h bl;a7<|am<|R<|V 4 Z<|M h fun aV bt h=>O (bh u57 aL Z Z (a.ro 1 Z) bt) Z<|O (aX u106 Z Z (a.ro 1 Z) bt Z) Z<|O (aE Z (bC u106 u103 aV)) Z<|V 1 Z<|O (aj Z Z (fu _ aV.toUInt64 aK)) Z<|V 1 Z<|O (aj Z Z (fu _ (aV.toUInt64 - aK) bV)) Z<|bg h fun ac cs h=>O (bd (v:=v64 ac) (by rw[<-cs]; rfl)) Z<|gl2<|V 5 Z<|O (aE Z (ce u103 u106 ac)) Z<|M h fun di bu h=>O (bh u57 aL Z Z (a.ro 1 Z) bu) Z<|bm (bX (t:=ac.toUInt32) aL Z Z a (i:=1) Z bu Z) fun w a=>bg h fun bW ct h=>?_
  rw[ct]at a
  refine Q ?_
  refine aU (r:=bT) (fun (g:UInt64×Q0) L w=>L=[(10,v64 n),(11,c),(12,d),(13,H (b.length:Int)),(15,j),(16,v64 f.toUInt64),(17,v64 m.toUInt64),(18,H o),(20,v64 g.1)]/\St [] B w [U X c b,U X d g.2,U X j p]) (F.H1 o p) ?_ ?_
  rotate_left
  ·intro au
   refine R<|V 1 Z<|O (aj Z Z (ca _ ac 63)) Z<|O (aj Z Z (Eb _ (aP ac 63) 0)) Z<|Q ?_
   apply gl9 Z h<;>intro h
   ·refine R<|V 1 Z<|O (aj Z Z (fu _ x 1)) Z<|V 1 Z<|gl2<|V 1 Z<|gl1<|R<|V 1 Z<|Q<|av<|ax [(10,v64 n),(11,c),(12,d),(13,H (b.length:Int)),(15,j),(16,v64 f.toUInt64),(17,v64 m.toUInt64),(18,H o),(20,v64 (x - 1)),(22,v64 0),(27,H 0)] Z ?_
    refine bf (F.HH b o x p) (fun (s:UInt64×Int×Q0) L w=>L=[(10,v64 n),(11,c),(12,d),(13,H (b.length:Int)),(15,j),(16,v64 f.toUInt64),(17,v64 m.toUInt64),(18,H o),(20,v64 (x - 1)),(22,v64 s.1),(27,H s.2.1)]/\St [] B w [U X c b,U X d s.2.2,U X j p]) ?_ (0,0,bW) ⟨Z,a⟩ h
    rintro dj ⟨ao,cS,cT⟩ L w dk T cu h bv
    try dsimp only at T
    obtain⟨rfl,a⟩:=T
    unfold F.HH at h
    refine az<|R<|V 3 Z<|Q ?_
    apply gl9 Z h<;>intro h
    ·refine gl5<|az<|av<|az<|aQ (fun w'=>St [] B w' [U X c b,U X d cT,U X j p]) (fun _=>true) bK (fun _ _ _ y=>y.2) (fun _ _ y=>y) (by kernel_rfl)<|have a:=a.drew;show lxE _ _ _ _ _ _ _ [0,1,2,3,4,5,6,7,8,9,10,11,12,13,14,15] _ _ from an 5 Z a<|M h fun a2 bw h=>J a Z Z (fun w k=>bh u57 aL Z Z (k.ro 1 Z) bw) Z<|J a Z Z (fun w k=>aX u106 Z Z (k.ro 1 Z) bw Z) Z<|J a Z Z (fun w k=>aE Z (bC u106 u103 a2)) Z<|an 2 Z a<|M h fun a3 bx h=>J a Z Z (fun w k=>bh u57 aL Z Z (k.ro 0 Z) bx) Z<|J a Z Z (fun w k=>aX u106 Z Z (k.ro 0 Z) bx Z) Z<|J a Z Z (fun w k=>aE Z (bC u106 u103 a3)) Z<|J a Z Z (fun w k=>aj Z Z (cC _ a2.toUInt64 a3.toUInt64)) Z<|J a Z Z (fun w k=>aj Z Z (cC _ ao (a2.toUInt64+a3.toUInt64))) Z<|bg h fun ad cv h=>J a Z Z (fun w k=>bd (v:=v64 ad) (by rw[<-cv]; rfl)) Z<|a8 a<|am<|R<|V 5 Z<|O (aE Z (ce u103 u106 ad)) Z<|M h fun dl bz h=>O (bh u57 aL Z Z (a.ro 1 Z) bz) Z<|bm (bX (t:=ad.toUInt32) aL Z Z a (i:=1) Z bz Z) ?_
     intro w a
     obtain⟨cW,cw,h⟩:=fD h
     rw[cw]at a
     exact Q<|al<|V 1 Z<|O (aj Z Z (ca _ ad 32)) Z<|V 1 Z<|aG<|aH<|am<|al<|V 3 Z<|aG<|bo (br (cu (aP ad 32,wI (cS+1),cW) _ _ ⟨Z,a⟩ (aW h bv)) Z)
    refine aZ<|aA<|aA<|have h:=aR h bv;a7<|am<|al<|V 4 Z<|M h fun bY bA h=>O (bh u57 aL Z Z (a.ro 1 Z) bA) Z<|O (aX u106 Z Z (a.ro 1 Z) bA Z) Z<|V 1 Z<|O (aE Z (ce u103 u106 ao)) Z<|O (aj Z Z (eP _ bY ao.toUInt32)) Z<|M h fun dm bB h=>O (bh u57 aL Z Z (a.ro 1 Z) bB) Z<|bm (bX (t:=(bY+ao.toUInt32)) aL Z Z a (i:=1) Z bB Z) fun w a=>bg h fun cX cx h=>?_
    rw[cx]at a
    exact Q<|aB (au (x - 1,cX) _ _ ⟨Z,a⟩ h) Z
   exact gl5<|aB (au (x,bW) _ _ ⟨Z,a⟩ h) Z
  rintro⟨bD,cy⟩ L w hJ h
  try dsimp only at hJ
  obtain⟨rfl,a⟩:=hJ
  unfold F.H1 at h
  refine al<|V 3 Z<|O (aE Z (ce u103 u106 bD)) Z<|M h fun c5 aw h=>O (bh u57 aL Z Z (a.ro 2 Z) aw) Z<|bm (bX (t:=bD.toUInt32) aL Z Z a (i:=2) Z aw Z) fun w a=>bg h fun cz bZ h=>?_
  rw[bZ]at a
  exact aG<|aH<|am<|al<|V 3 Z<|aG<|bo (br (ci (wI (o - 1),cy,cz) _ _ ⟨Z,a⟩ (aW h bb)) Z)
 refine aZ<|aA<|aA<|have h:=aR h bb;a7<|am<|R<|V 1 Z<|have hG:=a.pick (os':=[U X j p]++[U X c b,U X d q]) [2,0,1] (by decide) Z;M h fun cA b0 h=>aJ Z (dx  b0 hG.f ) Z ?_
 rintro bF w ⟨c0,bG,A⟩
 rw[<-bG]at A
 have a:=hG.g A
 refine V 1 Z<|have hG:=a.pick (os':=[U X d q]++[U X bF cA,U X c b]) [2,0,1] (by decide) Z;M h fun c6 b1 h=>aJ Z (dx  b1 hG.f ) Z ?_
 rintro c7 w ⟨c1,bL,A⟩
 rw[<-bL]at A
 have a:=hG.g A
 refine V 1 Z<|M h fun c8 b2 h=>aM a Z (rR n b2 (a.ro 0 Z).rp) Z fun cB w a=>V 2 Z<|Q<|aq ?_
 cases h
 exact bE Z Z Z ⟨bF,cB,Z,a.d [2,0] Z Z⟩
theorem i5 {o:World} {m y z j:Q0} {c u x b:Value} {f A B g:Nat} {S:Q2} (l n p d:Bool) {r:Bool×Q0×Bool×Q0}
  (h:F.I7 l m n y p z d j=some r) (a:St S o o [Y f [N l,c],U X c m,Y g [N d,b],U X b j]) (T:RP S o X u y) (hBa1:RB S o A [N n,u]) (ab:RP S o X x z) (hBa2:RB S o B [N p,x]):Calls Tryz.prog 180 #[P f 0,P A 0,P B 0,P g 0] o (Ret fun v w=>∃C D:Value,v=.tuple #[P f 0,P g 0]/\St S o w [Y f [N r.1,C],U X C r.2.1,Y g [N r.2.2.1,D],U X D r.2.2.2]):=by
 refine ay 46 Tryz.func180 Z Z Z<|ax [(0,P f 0),(1,P A 0),(2,P B 0),(3,P g 0)] Z ?_
 unfold F.I7 at h
 refine R<|V 2 Z<|gl1<|aQ (fun w'=>St S o w' [Y f [N l,c],U X c m,Y g [N d,b],U X b j]) (fun _=>true) bK (fun _ _ _ s=>s.2) (fun _ _ s=>s) (by kernel_rfl)<|have a:=a.drew;show lxE _ _ _ _ _ _ _ [0,1,2,3,4,5,6,7,8,9] _ _ from an 1 Z a<|J a Z Z (fun w e=>aK Z) Z<|J a Z Z (fun w e=>ak (k:=0) u130 Z Z nz4 Z) Z<|J a Z Z (fun w e=>ar u4 Z Z (hBa1.cell e.fr 0 Z)) Z<|an 1 Z a<|J a Z Z (fun w e=>aK Z) Z<|J a Z Z (fun w e=>ak (k:=0) u130 Z Z nz4 Z) Z<|J a Z Z (fun w e=>ar u4 Z Z (hBa2.cell e.fr 0 Z)) Z<|an 2 Z a<|a8 a<|am<|az<|aQ (fun w'=>St S o w' [Y f [N l,c],U X c m,Y g [N d,b],U X b j]) (fun i=>!([8].contains i)) bK (fun _ _ _ s=>s.2) (fun _ _ s=>s) (by kernel_rfl)<|have a:=a.drew;show lxE _ _ _ _ _ _ _ [0,1,2,3,4,5,6,7,8,9,10,11,12,13] _ _ from an 1 Z a<|J a Z Z (fun w e=>aK Z) Z<|J a Z Z (fun w e=>ak (k:=1) u130 Z Z dA Z) Z<|J a Z Z (fun w e=>ar u57 Z Z (hBa1.cell e.fr 1 Z)) Z<|an 1 Z a<|J a Z Z (fun w e=>aK Z) Z<|J a Z Z (fun w e=>ak (k:=1) u130 Z Z dA Z) Z ?_
 refine J a Z Z (fun w e=>ar u57 Z Z (hBa2.cell e.fr 1 Z)) Z<|M h fun E ah h=>aY a Z Z (by kernel_rfl) Z (kL  ah (T.b a.fr).rp (ab.b a.fr).rp) Z ?_
 rintro _ w ⟨ao,ae,rfl,q⟩
 have a:=a.e q
 refine an 5 Z (a.d [2,3,4,5] Z Z)<|a8 (a.d [2,3,4,5] Z Z)<|am<|R<|V 3 Z<|O (aj Z Z (mm _ n p u4 Z)) Z<|V 1 Z<|have G:=a.pick (os':=[Y f [N l,c],U X c m,U X ao E.1]++[U X ae E.2,Y g [N d,b],U X b j]) [2,3,0,1,4,5] (by decide) Z;M h fun L ac h=>aJ Z (bS l (n != p) ac G.f ) Z ?_
 rintro _ w ⟨t,rfl,q⟩
 have a:=G.g q
 refine gl2<|V 3 Z<|have G:=a.pick (os':=[Y g [N d,b],U X b j,U X ae E.2]++[Y f [N L.1,t],U X t L.2]) [3,4,2,0,1] (by decide) Z;M h fun ap ad h=>aJ Z (bS d n ad G.f ) Z ?_
 rintro _ w ⟨al,rfl,q⟩
 have a:=G.g q
 refine gl2<|V 4 Z<|Q<|aq ?_
 cases h
 exact bE Z Z Z ⟨t,al,Z,a.d [2,3,0,1] Z Z⟩
theorem kR {o:World} {m u j:Q0} {c t b:Value} {g x e:Nat} {S:Q2} (l n d:Bool) {r:Bool×Q0×Bool×Q0}
  (h:F.Mk l m n u d j=some r) (a:St S o o [Y g [N l,c],U X c m,Y e [N d,b],U X b j]) (D:RP S o X t u) (hBa2:RB S o x [N n,t]):Calls Tryz.prog 180 #[P g 0,P e 0,P x 0,P e 0] o (Ret fun v w=>∃y z:Value,v=.tuple #[P g 0,P e 0]/\St S o w [Y g [N r.1,y],U X y r.2.1,Y e [N r.2.2.1,z],U X z r.2.2.2]):=by
 refine ay 46 Tryz.func180 Z Z Z<|ax [(0,P g 0),(1,P e 0),(2,P x 0),(3,P e 0)] Z ?_
 unfold F.Mk at h
 refine R<|V 2 Z<|gl1<|aQ (fun w'=>St S o w' [Y g [N l,c],U X c m,Y e [N d,b],U X b j]) (fun _=>true) bK (fun _ _ _ q=>q.2) (fun _ _ q=>q) (by kernel_rfl)<|have a:=a.drew;show lxE _ _ _ _ _ _ _ [0,1,2,3,4,5,6,7,8,9] _ _ from an 1 Z a<|J a Z Z (fun w f=>aK Z) Z<|J a Z Z (fun w f=>ak (k:=0) u130 Z Z nz4 Z) Z<|J a Z Z (fun w f=>ar u4 Z Z (f.q 2 Z 0)) Z<|an 1 Z a<|J a Z Z (fun w f=>aK Z) Z<|J a Z Z (fun w f=>ak (k:=0) u130 Z Z nz4 Z) Z<|J a Z Z (fun w f=>ar u4 Z Z (hBa2.cell f.fr 0 Z)) Z<|an 2 Z a<|a8 a<|am<|az<|aQ (fun w'=>St S o w' [Y g [N l,c],U X c m,Y e [N d,b],U X b j]) (fun i=>!([8].contains i)) bK (fun _ _ _ q=>q.2) (fun _ _ q=>q) (by kernel_rfl)<|have a:=a.drew;show lxE _ _ _ _ _ _ _ [0,1,2,3,4,5,6,7,8,9,10,11,12,13] _ _ from an 1 Z a<|J a Z Z (fun w f=>aK Z) Z<|J a Z Z (fun w f=>ak (k:=1) u130 Z Z dA Z) Z<|J a Z Z (fun w f=>ar u57 Z Z (f.q 2 Z 1)) Z<|an 1 Z a<|J a Z Z (fun w f=>aK Z) Z<|J a Z Z (fun w f=>ak (k:=1) u130 Z Z dA Z) Z ?_
 refine J a Z Z (fun w f=>ar u57 Z Z (hBa2.cell f.fr 1 Z)) Z<|M h fun A T h=>aY a Z Z (by kernel_rfl) Z (kL  T (a.ro 3 Z).rp (D.b a.fr).rp) Z ?_
 rintro _ w ⟨ac,L,rfl,p⟩
 have a:=a.e p
 refine an 5 Z (a.d [2,3,4,5] Z Z)<|a8 (a.d [2,3,4,5] Z Z)<|am<|R<|V 3 Z<|O (aj Z Z (mm _ d n u4 Z)) Z<|V 1 Z<|have B:=a.pick (os':=[Y g [N l,c],U X c m,U X ac A.1]++[U X L A.2,Y e [N d,b],U X b j]) [2,3,0,1,4,5] (by decide) Z;M h fun C E h=>aJ Z (bS l (d != n) E B.f ) Z ?_
 rintro _ w ⟨s,rfl,p⟩
 have a:=B.g p
 refine gl2<|V 3 Z<|have B:=a.pick (os':=[Y e [N d,b],U X b j,U X L A.2]++[Y g [N C.1,s],U X s C.2]) [3,4,2,0,1] (by decide) Z;M h fun ad G h=>aJ Z (bS d d G B.f ) Z ?_
 rintro _ w ⟨ab,rfl,p⟩
 have a:=B.g p
 refine gl2<|V 4 Z<|Q<|aq ?_
 cases h
 exact bE Z Z Z ⟨s,ab,Z,a.d [2,3,0,1] Z Z⟩
theorem kQ {o:World} {m u l:Q0} {c t b:Value} {e x j:Nat} {S:Q2} (d n f:Bool) {r:Bool×Q0×Bool×Q0}
  (h:F.Ml d m n u f l=some r) (a:St S o o [Y e [N d,c],U X c m,Y j [N f,b],U X b l]) (D:RP S o X t u) (hBa2:RB S o x [N n,t]):Calls Tryz.prog 180 #[P e 0,P e 0,P x 0,P j 0] o (Ret fun v w=>∃y z:Value,v=.tuple #[P e 0,P j 0]/\St S o w [Y e [N r.1,y],U X y r.2.1,Y j [N r.2.2.1,z],U X z r.2.2.2]):=by
 refine ay 46 Tryz.func180 Z Z Z<|ax [(0,P e 0),(1,P e 0),(2,P x 0),(3,P j 0)] Z ?_
 unfold F.Ml at h
 refine R<|V 2 Z<|gl1<|aQ (fun w'=>St S o w' [Y e [N d,c],U X c m,Y j [N f,b],U X b l]) (fun _=>true) bK (fun _ _ _ q=>q.2) (fun _ _ q=>q) (by kernel_rfl)<|have a:=a.drew;show lxE _ _ _ _ _ _ _ [0,1,2,3,4,5,6,7,8,9] _ _ from an 1 Z a<|J a Z Z (fun w g=>aK Z) Z<|J a Z Z (fun w g=>ak (k:=0) u130 Z Z nz4 Z) Z<|J a Z Z (fun w g=>ar u4 Z Z (g.q 0 Z 0)) Z<|an 1 Z a<|J a Z Z (fun w g=>aK Z) Z<|J a Z Z (fun w g=>ak (k:=0) u130 Z Z nz4 Z) Z<|J a Z Z (fun w g=>ar u4 Z Z (hBa2.cell g.fr 0 Z)) Z<|an 2 Z a<|a8 a<|am<|az<|aQ (fun w'=>St S o w' [Y e [N d,c],U X c m,Y j [N f,b],U X b l]) (fun i=>!([8].contains i)) bK (fun _ _ _ q=>q.2) (fun _ _ q=>q) (by kernel_rfl)<|have a:=a.drew;show lxE _ _ _ _ _ _ _ [0,1,2,3,4,5,6,7,8,9,10,11,12,13] _ _ from an 1 Z a<|J a Z Z (fun w g=>aK Z) Z<|J a Z Z (fun w g=>ak (k:=1) u130 Z Z dA Z) Z<|J a Z Z (fun w g=>ar u57 Z Z (g.q 0 Z 1)) Z<|an 1 Z a<|J a Z Z (fun w g=>aK Z) Z<|J a Z Z (fun w g=>ak (k:=1) u130 Z Z dA Z) Z ?_
 refine J a Z Z (fun w g=>ar u57 Z Z (hBa2.cell g.fr 1 Z)) Z<|M h fun A T h=>aY a Z Z (by kernel_rfl) Z (kL  T (a.ro 1 Z).rp (D.b a.fr).rp) Z ?_
 rintro _ w ⟨ac,L,rfl,p⟩
 have a:=a.e p
 refine an 5 Z (a.d [2,3,4,5] Z Z)<|a8 (a.d [2,3,4,5] Z Z)<|am<|R<|V 3 Z<|O (aj Z Z (mm _ d n u4 Z)) Z<|V 1 Z<|have B:=a.pick (os':=[Y e [N d,c],U X c m,U X ac A.1]++[U X L A.2,Y j [N f,b],U X b l]) [2,3,0,1,4,5] (by decide) Z;M h fun C E h=>aJ Z (bS d (d != n) E B.f ) Z ?_
 rintro _ w ⟨s,rfl,p⟩
 have a:=B.g p
 refine gl2<|V 3 Z<|have B:=a.pick (os':=[Y j [N f,b],U X b l,U X L A.2]++[Y e [N C.1,s],U X s C.2]) [3,4,2,0,1] (by decide) Z;M h fun ad G h=>aJ Z (bS f d G B.f ) Z ?_
 rintro _ w ⟨ab,rfl,p⟩
 have a:=B.g p
 refine gl2<|V 4 Z<|Q<|aq ?_
 cases h
 exact bE Z Z Z ⟨s,ab,Z,a.d [2,3,0,1] Z Z⟩
theorem fQ {f:World} {d:Q0} {a:Value} {c:Nat} {S:Q2} (b:Bool) (a1:Int) {r:Bool×Q0}
  (h:F.IQ b d a1=some r) (e:St S f f [Y c [N b,a],U X a d]):Calls Tryz.prog 135 #[P c 0,H a1] f (Ret fun v w=>∃i:Value,v=P c 0/\St S f w [Y c [N r.1,i],U X i r.2]):=by
 refine ay 18 Tryz.func135 Z Z Z<|ax [(0,P c 0),(1,H a1)] Z ?_
 unfold F.IQ at h
 refine R<|V 1 Z<|gl2<|V 1 Z<|O (aE Z (fv Tryz.underlying2 u103 a1)) Z<|V 1 Z<|Q ?_
 refine aU (r:=r) (fun (g:UInt64) L w=>L=[(0,P c 0),(1,H a1),(5,v64 g)]/\St S f w [Y c [N b,a],U X a d]) (F.Ki b d a1) ?_ ?_
 rotate_left
 ·intro j
  refine R<|V 2 Z<|Q ?_
  apply gl9 Z h<;>intro h
  ·exact al<|V 1 Z<|O (nH Z (DH (UInt64.ofInt a1))) Z<|V 1 Z<|Q<|aB (j (0 - (UInt64.ofInt a1)) _ _ ⟨Z,e⟩ h) Z
  exact gl5<|aB (j (UInt64.ofInt a1) _ _ ⟨Z,e⟩ h) Z
 rintro n L w o h
 try dsimp only at o
 obtain⟨rfl,e⟩:=o
 unfold F.Ki at h
 refine R<|V 4 Z<|M h fun p k h=>aM e Z (eQ n k ) Z fun q w e=>have s:=e.pick (os':=[Y c [N b,a],U X a d,U X q p]++[]) [1,2,0] (by decide) Z;M h fun u l h=>aJ Z (bS b (decide (a1<0)) l s.f ) Z ?_
 rintro _ w ⟨m,rfl,t⟩
 have e:=s.g t
 refine V 1 Z<|Q<|aq ?_
 cases h
 exact au Z Z ⟨m,Z,e.d [0,1] Z Z⟩
theorem cW {d:World} (a0:Int) {r:Bool×Q0}
  (h:F.GQ a0=some r) :Calls Tryz.prog 84 #[H a0] d (Ret fun v w=>∃b:Value,∃un0:Nat,v=P un0 0/\St [] d w [Y un0 [N r.1,b],U X b r.2]):=by
 refine ay 6 Tryz.func84 Z Z Z<|have a:=St.k d;ax [(0,H a0)] Z ?_
 unfold F.GQ at h
 refine R<|V 1 Z<|gl2<|bl (bc (cs:=[N false,Q3]) dt Z a) Z fun c w a=>V 1 Z ?_
 replace a:=a.nil X
 have f:=a.pick (os':=[Y c [N false,Q3],U X (.slice none 0 0) []]++[]) [1,0] (by decide) Z
 refine M h fun j e h=>aJ Z (fQ false a0 e f.f ) Z ?_
 rintro _ w ⟨g,rfl,i⟩
 have a:=f.g i
 refine V 1 Z<|Q<|aq ?_
 cases h
 exact au Z Z ⟨g,c,Z,a.d [0,1] Z Z⟩
theorem ko {k:World} {a0 a1:Q0} {b c:Value} {r:Q0}
  (h:F.Iy a0 a1=some r) (l:RP [] k X b a0) (q:RP [] k X c a1):Calls Tryz.prog 140 #[b,c] k (Ret fun v w=>St [] k w [U X v r]):=by
 refine ay 45 Tryz.func140 Z Z Z<|have a:=St.k k;ax [(0,b),(1,c)] Z ?_
 unfold F.Iy at h
 refine R<|V 1 Z<|gl2<|V 1 Z<|O (aD u57 Z (l.b a.fr)) Z<|M h fun ad T h=>bn (cV (e:=X) u57 aL Z Z Z a T) Z fun d w a=>V 1 Z<|gl2<|V 1 Z<|gl1<|R<|V 1 Z<|Q<|av<|ax [(0,b),(1,c),(5,d),(6,v64 0),(7,H 0)] Z ?_
 refine bf (F.Kt a0 a1) (fun (s:UInt64×Int×Q0) L w=>L=[(0,b),(1,c),(5,d),(6,v64 s.1),(7,H s.2.1)]/\St [] k w [U X d s.2.2]) ?_ (0,0,ad) ⟨Z,a⟩ h
 rintro ao ⟨u,x,y⟩ L w ae hI ab h z
 try dsimp only at hI
 obtain⟨rfl,a⟩:=hI
 unfold F.Kt at h
 refine az<|R<|V 2 Z<|O (aD u57 Z (l.b a.fr)) Z<|V 1 Z<|Q ?_
 apply gl9 Z h<;>intro h
 ·refine gl5<|az<|av<|R<|V 2 Z<|M h fun f m h=>O (bh u57 aL Z Z (l.b a.fr) m) Z<|O (aX u106 Z Z (l.b a.fr) m Z) Z<|O (aE Z (bC u106 u103 f)) Z<|V 1 Z<|O (aj Z Z (fu _ f.toUInt64 u)) Z<|V 1 Z<|Q ?_
  refine aU (r:=ae) (fun (g:UInt64) L w=>L=[(0,b),(1,c),(5,d),(7,H x),(8,v64 g)]/\St [] k w [U X d y]) (F.Jh x y) ?_ ?_
  rotate_left
  ·intro n
   refine R<|V 2 Z<|O (aD u57 Z (q.b a.fr)) Z<|V 1 Z<|Q ?_
   apply gl9 Z h<;>intro h
   ·exact al<|V 3 Z<|M h fun A o h=>O (bh u57 aL Z Z (q.b a.fr) o) Z<|O (aX u106 Z Z (q.b a.fr) o Z) Z<|O (aE Z (bC u106 u103 A)) Z<|O (aj Z Z (fu _ (f.toUInt64 - u) A.toUInt64)) Z<|bg h fun B D h=>O (bd (v:=v64 B) (by rw[<-D]; rfl)) Z<|Q<|aB (n B _ _ ⟨Z,a⟩ h) Z
   exact gl5<|aB (n (f.toUInt64 - u) _ _ ⟨Z,a⟩ h) Z
  rintro j L w hJ h
  try dsimp only at hJ
  obtain⟨rfl,a⟩:=hJ
  unfold F.Jh at h
  refine R<|V 3 Z<|O (aE Z (ce u103 u106 j)) Z<|M h fun ap p h=>O (bh u57 aL Z Z (a.ro 0 Z) p) Z<|bm (bX (t:=j.toUInt32) aL Z Z a (i:=0) Z p Z) fun w a=>bg h fun ac E h=>?_
  rw[E]at a
  exact Q<|al<|V 1 Z<|O (aj Z Z (ca _ j 63)) Z<|V 1 Z<|aG<|aH<|am<|al<|V 3 Z<|aG<|bo (br (ab (aP j 63,wI (x+1),ac) _ _ ⟨Z,a⟩ (aW h z)) Z)
 refine aZ<|aA<|aA<|have h:=aR h z;a7<|am<|R<|V 1 Z<|have hG:=a.pick (os':=[U X d y]++[]) [0] (by decide) Z;M h fun ar G h=>aJ Z (dx  G hG.f ) Z ?_
 rintro aw w ⟨an,C,S⟩
 rw[<-C]at S
 have a:=hG.g S
 refine V 1 Z<|Q<|aq ?_
 cases h
 exact au Z Z (a.d [0] Z Z)
theorem gx {d:World} {a1 a3:Q0} {e f:Value} (a0 a2:Bool) {r:Bool×Q0}
  (h:F.Ha a0 a1 a2 a3=some r) (b:RP [] d X e a1) (c:RP [] d X f a3):Calls Tryz.prog 163 #[N a0,e,N a2,f] d (Ret fun v w=>∃u1:Value,v=.tuple #[N r.1,u1]/\St [] d w [U X u1 r.2]):=by
 refine ay 29 Tryz.func163 Z Z Z<|have a:=St.k d;ax [(0,N a0),(1,e),(2,N a2),(3,f)] Z ?_
 unfold F.Ha at h
 refine R<|V 2 Z<|gl1<|R<|V 2 Z<|O (aj Z Z (ED _ a0 a2 u4 Z)) Z<|Q ?_
 apply gl9 Z h<;>intro h
 ·refine R<|V 3 Z<|M h fun o g h=>aM a Z (kO  g (b.b a.fr).rp (c.b a.fr).rp) Z fun l w a=>V 2 Z<|gl8 ?_
  cases h
  exact bE Z Z Z ⟨l,Z,a.d [0] Z Z⟩
 refine gl5<|az<|R<|V 2 Z<|M h fun p i h=>aS a Z (kM  i (b.b a.fr).rp (c.b a.fr).rp) Z fun w a=>V 1 Z<|Q ?_
 apply gl9 Z h<;>intro h
 ·refine R<|V 3 Z<|M h fun q j h=>aM a Z (ko  j (b.b a.fr).rp (c.b a.fr).rp) Z fun m w a=>V 2 Z<|gl8 ?_
  cases h
  exact bE Z Z Z ⟨m,Z,a.d [0] Z Z⟩
 refine gl6<|V 3 Z<|M h fun s k h=>aM a Z (ko  k (c.b a.fr).rp (b.b a.fr).rp) Z fun n w a=>V 2 Z<|Q<|aq ?_
 cases h
 exact bE Z Z Z ⟨n,Z,a.d [0] Z Z⟩
theorem pV {e:World} {g o p:Q0} {c m n:Value} {d q s:Nat} {S:Q2} (f j l:Bool) {r:Bool×Q0}
  (h:F.JI f g j o l p=some r) (a:St S e e [Y d [N f,c],U X c g]) (x:RP S e X m o) (hBa1:RB S e q [N j,m]) (y:RP S e X n p) (hBa2:RB S e s [N l,n]):Calls Tryz.prog 122 #[P d 0,P q 0,P s 0] e (Ret fun v w=>∃t:Value,v=P d 0/\St S e w [Y d [N r.1,t],U X t r.2]):=by
 refine ay 28 Tryz.func122 Z Z Z<|ax [(0,P d 0),(1,P q 0),(2,P s 0)] Z ?_
 unfold F.JI at h
 refine R<|V 1 Z<|gl1<|have hsh1:=(a.ro 1 Z).shp;aQ (fun w'=>St S e w' []) (fun i=>!([17,20].contains i)) bK (fun _ _ _ A=>A.2) (fun _ _ A=>A) (by kernel_rfl)<|have a:=a.drew;show lxE _ _ _ _ _ _ _ [0,1,2,3,4,5,6,7,8,9,10,11,12,13,14,15,16,17,18,19,20,21] _ _ from an 2 Z (a.d [] Z Z)<|J (a.d [] Z Z) Z Z (fun w b=>aK Z) Z<|J (a.d [] Z Z) Z Z (fun w b=>ak (k:=0) u130 Z Z nz4 Z) Z<|J (a.d [] Z Z) Z Z (fun w b=>ar u4 Z Z (hBa1.cell b.fr 0 Z)) Z<|an 1 Z (a.d [] Z Z)<|J (a.d [] Z Z) Z Z (fun w b=>aK Z) Z<|J (a.d [] Z Z) Z Z (fun w b=>ak (k:=1) u130 Z Z dA Z) Z<|J (a.d [] Z Z) Z Z (fun w b=>ar u57 Z Z (hBa1.cell b.fr 1 Z)) Z<|an 1 Z (a.d [] Z Z)<|J (a.d [] Z Z) Z Z (fun w b=>aK Z) Z<|J (a.d [] Z Z) Z Z (fun w b=>ak (k:=0) u130 Z Z nz4 Z) Z<|J (a.d [] Z Z) Z Z (fun w b=>ar u4 Z Z (hBa2.cell b.fr 0 Z)) Z<|an 1 Z (a.d [] Z Z)<|J (a.d [] Z Z) Z Z (fun w b=>aK Z) Z<|J (a.d [] Z Z) Z Z (fun w b=>ak (k:=1) u130 Z Z dA Z) Z<|J (a.d [] Z Z) Z Z (fun w b=>ar u57 Z Z (hBa2.cell b.fr 1 Z)) Z ?_
 refine M h fun z B h=>aY (a.d [] Z Z) Z Z (by kernel_rfl) Z (gx j l B (x.b a.fr).rp (y.b a.fr).rp) Z ?_
 rintro _ w ⟨D,rfl,u⟩
 have a:=a.e u
 refine an 2 Z (a.d [] Z Z)<|have E:=a.pick (os':=[Y d [N f,c],U X c g,U X D z.2]++[]) [1,2,0] (by decide) Z;M h fun L C h=>aY (a.d [] Z Z) Z Z (by kernel_rfl) Z (bS f z.1 C E.f ) Z ?_
 rintro _ w ⟨G,rfl,u⟩
 have a:=E.g u
 refine an 1 Z (a.d [] Z Z)<|a8 (a.d [] Z Z)<|am<|aq ?_
 cases h
 exact au Z Z ⟨G,Z,a.d [0,1] Z Z⟩
theorem dZ {f:World} {g m:Q0} {c l:Value} {b n:Nat} {S:Q2} (d j:Bool) {r:Bool×Q0}
  (h:F.HA d g j m=some r) (a:St S f f [Y b [N d,c],U X c g]) (q:RP S f X l m) (hBa2:RB S f n [N j,l]):Calls Tryz.prog 122 #[P b 0,P b 0,P n 0] f (Ret fun v w=>∃o:Value,v=P b 0/\St S f w [Y b [N r.1,o],U X o r.2]):=by
 refine ay 28 Tryz.func122 Z Z Z<|ax [(0,P b 0),(1,P b 0),(2,P n 0)] Z ?_
 unfold F.HA at h
 refine R<|V 1 Z<|gl1<|have hsh1:=(a.ro 1 Z).shp;aQ (fun w'=>St S f w' []) (fun i=>!([1004,1008,17,20].contains i)) bK (fun _ _ _ t=>t.2) (fun _ _ t=>t) (by kernel_rfl)<|have a:=a.drew;show lxE _ _ _ _ _ _ _ [0,1,2,3,4,5,6,7,8,9,10,11,12,13,14,15,16,17,18,19,20,21] _ _ from an 2 Z (a.d [] Z Z)<|J (a.d [] Z Z) Z Z (fun w e=>aK Z) Z<|J (a.d [] Z Z) Z Z (fun w e=>ak (k:=0) u130 Z Z nz4 Z) Z<|k7 (a.d [] Z Z) Z Z Z (ar u4 Z Z (a.q 0 Z 0)) Z<|an 1 Z (a.d [] Z Z)<|J (a.d [] Z Z) Z Z (fun w e=>aK Z) Z<|J (a.d [] Z Z) Z Z (fun w e=>ak (k:=1) u130 Z Z dA Z) Z<|k7 (a.d [] Z Z) Z Z Z (ar u57 Z Z (a.q 0 Z 1)) Z<|an 1 Z (a.d [] Z Z)<|J (a.d [] Z Z) Z Z (fun w e=>aK Z) Z<|J (a.d [] Z Z) Z Z (fun w e=>ak (k:=0) u130 Z Z nz4 Z) Z<|J (a.d [] Z Z) Z Z (fun w e=>ar u4 Z Z (hBa2.cell e.fr 0 Z)) Z<|an 1 Z (a.d [] Z Z)<|J (a.d [] Z Z) Z Z (fun w e=>aK Z) Z<|J (a.d [] Z Z) Z Z (fun w e=>ak (k:=1) u130 Z Z dA Z) Z<|J (a.d [] Z Z) Z Z (fun w e=>ar u57 Z Z (hBa2.cell e.fr 1 Z)) Z ?_
 refine M h fun s u h=>aY (a.d [] Z Z) Z Z (by kernel_rfl) Z (gx d j u (a.ro 1 Z).rp (q.b a.fr).rp) Z ?_
 rintro _ w ⟨y,rfl,p⟩
 have a:=a.e p
 refine an 2 Z (a.d [] Z Z)<|have z:=a.pick (os':=[Y b [N d,c],U X c g,U X y s.2]++[]) [1,2,0] (by decide) Z;M h fun B x h=>aY (a.d [] Z Z) Z Z (by kernel_rfl) Z (bS d s.1 x z.f ) Z ?_
 rintro _ w ⟨A,rfl,p⟩
 have a:=z.g p
 refine an 1 Z (a.d [] Z Z)<|a8 (a.d [] Z Z)<|am<|aq ?_
 cases h
 exact au Z Z ⟨A,Z,a.d [0,1] Z Z⟩
theorem kI {e:World} {g o p:Q0} {c m n:Value} {d q s:Nat} {S:Q2} (f j l:Bool) {r:Bool×Q0}
  (h:F.Je f g j o l p=some r) (a:St S e e [Y d [N f,c],U X c g]) (x:RP S e X m o) (hBa1:RB S e q [N j,m]) (y:RP S e X n p) (hBa2:RB S e s [N l,n]):Calls Tryz.prog 161 #[P d 0,P q 0,P s 0] e (Ret fun v w=>∃t:Value,v=P d 0/\St S e w [Y d [N r.1,t],U X t r.2]):=by
 refine ay 29 Tryz.func161 Z Z Z<|ax [(0,P d 0),(1,P q 0),(2,P s 0)] Z ?_
 unfold F.Je at h
 refine R<|V 1 Z<|gl1<|have hsh1:=(a.ro 1 Z).shp;aQ (fun w'=>St S e w' []) (fun i=>!([18,21].contains i)) bK (fun _ _ _ A=>A.2) (fun _ _ A=>A) (by kernel_rfl)<|have a:=a.drew;show lxE _ _ _ _ _ _ _ [0,1,2,3,4,5,6,7,8,9,10,11,12,13,14,15,16,17,18,19,20,21,22] _ _ from an 2 Z (a.d [] Z Z)<|J (a.d [] Z Z) Z Z (fun w b=>aK Z) Z<|J (a.d [] Z Z) Z Z (fun w b=>ak (k:=0) u130 Z Z nz4 Z) Z<|J (a.d [] Z Z) Z Z (fun w b=>ar u4 Z Z (hBa1.cell b.fr 0 Z)) Z<|an 1 Z (a.d [] Z Z)<|J (a.d [] Z Z) Z Z (fun w b=>aK Z) Z<|J (a.d [] Z Z) Z Z (fun w b=>ak (k:=1) u130 Z Z dA Z) Z<|J (a.d [] Z Z) Z Z (fun w b=>ar u57 Z Z (hBa1.cell b.fr 1 Z)) Z<|an 1 Z (a.d [] Z Z)<|J (a.d [] Z Z) Z Z (fun w b=>aK Z) Z<|J (a.d [] Z Z) Z Z (fun w b=>ak (k:=0) u130 Z Z nz4 Z) Z<|J (a.d [] Z Z) Z Z (fun w b=>ar u4 Z Z (hBa2.cell b.fr 0 Z)) Z<|an 2 Z (a.d [] Z Z)<|J (a.d [] Z Z) Z Z (fun w b=>aK Z) Z<|J (a.d [] Z Z) Z Z (fun w b=>ak (k:=1) u130 Z Z dA Z) Z<|J (a.d [] Z Z) Z Z (fun w b=>ar u57 Z Z (hBa2.cell b.fr 1 Z)) Z ?_
 refine M h fun z B h=>aY (a.d [] Z Z) Z Z (by kernel_rfl) Z (gx j (!l) B (x.b a.fr).rp (y.b a.fr).rp) Z ?_
 rintro _ w ⟨D,rfl,u⟩
 have a:=a.e u
 refine an 2 Z (a.d [] Z Z)<|have E:=a.pick (os':=[Y d [N f,c],U X c g,U X D z.2]++[]) [1,2,0] (by decide) Z;M h fun L C h=>aY (a.d [] Z Z) Z Z (by kernel_rfl) Z (bS f z.1 C E.f ) Z ?_
 rintro _ w ⟨G,rfl,u⟩
 have a:=E.g u
 refine an 1 Z (a.d [] Z Z)<|a8 (a.d [] Z Z)<|am<|aq ?_
 cases h
 exact au Z Z ⟨G,Z,a.d [0,1] Z Z⟩
theorem eI {f:World} {g m:Q0} {c l:Value} {b n:Nat} {S:Q2} (d j:Bool) {r:Bool×Q0}
  (h:F.HR d g j m=some r) (a:St S f f [Y b [N d,c],U X c g]) (q:RP S f X l m) (hBa2:RB S f n [N j,l]):Calls Tryz.prog 161 #[P b 0,P b 0,P n 0] f (Ret fun v w=>∃o:Value,v=P b 0/\St S f w [Y b [N r.1,o],U X o r.2]):=by
 refine ay 29 Tryz.func161 Z Z Z<|ax [(0,P b 0),(1,P b 0),(2,P n 0)] Z ?_
 unfold F.HR at h
 refine R<|V 1 Z<|gl1<|have hsh1:=(a.ro 1 Z).shp;aQ (fun w'=>St S f w' []) (fun i=>!([1004,1008,18,21].contains i)) bK (fun _ _ _ t=>t.2) (fun _ _ t=>t) (by kernel_rfl)<|have a:=a.drew;show lxE _ _ _ _ _ _ _ [0,1,2,3,4,5,6,7,8,9,10,11,12,13,14,15,16,17,18,19,20,21,22] _ _ from an 2 Z (a.d [] Z Z)<|J (a.d [] Z Z) Z Z (fun w e=>aK Z) Z<|J (a.d [] Z Z) Z Z (fun w e=>ak (k:=0) u130 Z Z nz4 Z) Z<|k7 (a.d [] Z Z) Z Z Z (ar u4 Z Z (a.q 0 Z 0)) Z<|an 1 Z (a.d [] Z Z)<|J (a.d [] Z Z) Z Z (fun w e=>aK Z) Z<|J (a.d [] Z Z) Z Z (fun w e=>ak (k:=1) u130 Z Z dA Z) Z<|k7 (a.d [] Z Z) Z Z Z (ar u57 Z Z (a.q 0 Z 1)) Z<|an 1 Z (a.d [] Z Z)<|J (a.d [] Z Z) Z Z (fun w e=>aK Z) Z<|J (a.d [] Z Z) Z Z (fun w e=>ak (k:=0) u130 Z Z nz4 Z) Z<|J (a.d [] Z Z) Z Z (fun w e=>ar u4 Z Z (hBa2.cell e.fr 0 Z)) Z<|an 2 Z (a.d [] Z Z)<|J (a.d [] Z Z) Z Z (fun w e=>aK Z) Z<|J (a.d [] Z Z) Z Z (fun w e=>ak (k:=1) u130 Z Z dA Z) Z<|J (a.d [] Z Z) Z Z (fun w e=>ar u57 Z Z (hBa2.cell e.fr 1 Z)) Z ?_
 refine M h fun s u h=>aY (a.d [] Z Z) Z Z (by kernel_rfl) Z (gx d (!j) u (a.ro 1 Z).rp (q.b a.fr).rp) Z ?_
 rintro _ w ⟨y,rfl,p⟩
 have a:=a.e p
 refine an 2 Z (a.d [] Z Z)<|have z:=a.pick (os':=[Y b [N d,c],U X c g,U X y s.2]++[]) [1,2,0] (by decide) Z;M h fun B x h=>aY (a.d [] Z Z) Z Z (by kernel_rfl) Z (bS d s.1 x z.f ) Z ?_
 rintro _ w ⟨A,rfl,p⟩
 have a:=z.g p
 refine an 1 Z (a.d [] Z Z)<|a8 (a.d [] Z Z)<|am<|aq ?_
 cases h
 exact au Z Z ⟨A,Z,a.d [0,1] Z Z⟩
theorem mN {f:World} {g m:Q0} {c l:Value} {b n:Nat} {S:Q2} (d j:Bool) {r:Bool×Q0}
  (h:F.KN d g j m=some r) (a:St S f f [Y b [N d,c],U X c g]) (q:RP S f X l m) (hBa1:RB S f n [N j,l]):Calls Tryz.prog 161 #[P b 0,P n 0,P b 0] f (Ret fun v w=>∃o:Value,v=P b 0/\St S f w [Y b [N r.1,o],U X o r.2]):=by
 refine ay 29 Tryz.func161 Z Z Z<|ax [(0,P b 0),(1,P n 0),(2,P b 0)] Z ?_
 unfold F.KN at h
 refine R<|V 1 Z<|gl1<|have hsh1:=(a.ro 1 Z).shp;aQ (fun w'=>St S f w' []) (fun i=>!([1012,1017,18,21].contains i)) bK (fun _ _ _ t=>t.2) (fun _ _ t=>t) (by kernel_rfl)<|have a:=a.drew;show lxE _ _ _ _ _ _ _ [0,1,2,3,4,5,6,7,8,9,10,11,12,13,14,15,16,17,18,19,20,21,22] _ _ from an 2 Z (a.d [] Z Z)<|J (a.d [] Z Z) Z Z (fun w e=>aK Z) Z<|J (a.d [] Z Z) Z Z (fun w e=>ak (k:=0) u130 Z Z nz4 Z) Z<|J (a.d [] Z Z) Z Z (fun w e=>ar u4 Z Z (hBa1.cell e.fr 0 Z)) Z<|an 1 Z (a.d [] Z Z)<|J (a.d [] Z Z) Z Z (fun w e=>aK Z) Z<|J (a.d [] Z Z) Z Z (fun w e=>ak (k:=1) u130 Z Z dA Z) Z<|J (a.d [] Z Z) Z Z (fun w e=>ar u57 Z Z (hBa1.cell e.fr 1 Z)) Z<|an 1 Z (a.d [] Z Z)<|J (a.d [] Z Z) Z Z (fun w e=>aK Z) Z<|J (a.d [] Z Z) Z Z (fun w e=>ak (k:=0) u130 Z Z nz4 Z) Z<|k7 (a.d [] Z Z) Z Z Z (ar u4 Z Z (a.q 0 Z 0)) Z<|an 2 Z (a.d [] Z Z)<|J (a.d [] Z Z) Z Z (fun w e=>aK Z) Z<|J (a.d [] Z Z) Z Z (fun w e=>ak (k:=1) u130 Z Z dA Z) Z<|k7 (a.d [] Z Z) Z Z Z (ar u57 Z Z (a.q 0 Z 1)) Z ?_
 refine M h fun s u h=>aY (a.d [] Z Z) Z Z (by kernel_rfl) Z (gx j (!d) u (q.b a.fr).rp (a.ro 1 Z).rp) Z ?_
 rintro _ w ⟨y,rfl,p⟩
 have a:=a.e p
 refine an 2 Z (a.d [] Z Z)<|have z:=a.pick (os':=[Y b [N d,c],U X c g,U X y s.2]++[]) [1,2,0] (by decide) Z;M h fun B x h=>aY (a.d [] Z Z) Z Z (by kernel_rfl) Z (bS d s.1 x z.f ) Z ?_
 rintro _ w ⟨A,rfl,p⟩
 have a:=z.g p
 refine an 1 Z (a.d [] Z Z)<|a8 (a.d [] Z Z)<|am<|aq ?_
 cases h
 exact au Z Z ⟨A,Z,a.d [0,1] Z Z⟩
theorem nj {x:World} {y am an z:Q0} {l ah J m:Value} {d ao ap e:Nat} {S:Q2} (o ac A p:Bool) {r:Bool×Q0×Bool×Q0}
  (h:F.Jc o y ac am A an p z=some r) (c:St S x x [Y d [N o,l],U X l y,Y e [N p,m],U X m z]) (aD:RP S x X ah am) (hBa1:RB S x ao [N ac,ah]) (aj:RP S x X J an) (hBa2:RB S x ap [N A,J]):Calls Tryz.prog 178 #[P d 0,P ao 0,P ap 0,P e 0] x (Ret fun v w=>∃au av:Value,v=.tuple #[P d 0,P e 0]/\St S x w [Y d [N r.1,au],U X au r.2.1,Y e [N r.2.2.1,av],U X av r.2.2.2]):=by
 refine ay 45 Tryz.func178 Z Z Z<|ax [(0,P d 0),(1,P ao 0),(2,P ap 0),(3,P e 0)] Z ?_
 unfold F.Jc at h
 refine R<|V 2 Z<|gl2<|bl (bc (cs:=[N false,Q3]) dt Z c) Z fun u w c=>V 1 Z ?_
 replace c:=c.nil X
 have b:=c.pick (os':=[Y u [N false,Q3],U X (.slice none 0 0) []]++[Y d [N o,l],U X l y,Y e [N p,m],U X m z]) [1,0,2,3,4,5] (by decide) Z
 refine M h fun i aN h=>aJ Z (gc false A aN b.f (aj.f (W Z) b) (hBa2.f b)) Z ?_
 rintro _ w ⟨n,rfl,j⟩
 have c:=b.g j
 refine V 1 Z<|gl2<|V 4 Z<|have b:=c.pick (os':=[Y d [N o,l],U X l y,Y e [N p,m],U X m z]++[Y u [N i.1,n],U X n i.2]) [2,3,4,5,0,1] (by decide) Z;M h fun a aE h=>aJ Z (i5 o ac A p aE b.f (aD.f (W Z) b) (hBa1.f b) (aj.f (W Z) b) (hBa2.f b)) Z ?_
 rintro _ w ⟨q,f,rfl,j⟩
 have c:=b.g j
 refine Q ?_
 refine aU (r:=r) (fun (g:Bool×Q0×Bool×Q0) L w=>∃(B:Value) (C:Value),L=[(0,P d 0),(3,P e 0)]/\St S x w [U X B g.2.1,Y d [N g.1,B],U X C g.2.2.2,Y e [N g.2.2.1,C]]) (F.Ll) ?_ ?_
 rotate_left
 ·intro D
  refine R<|V 1 Z<|O (aK Z) Z<|O (ak (k:=0) u130 Z Z nz4 Z) Z<|O (ar u4 Z Z (c.q 2 Z 0)) Z<|Q ?_
  apply gl9 Z h<;>intro h
  ·refine R<|V 1 Z<|O (aK Z) Z<|O (ak (k:=0) u130 Z Z nz4 Z) Z<|O (ar u4 Z Z (c.q 4 Z 0)) Z<|Q ?_
   apply gl9 Z h<;>intro h
   ·refine R<|V 2 Z<|M h fun s aF h=>bA c Z (cW 1 aF ) Z fun E aw w c=>have b:=c.pick (os':=[Y d [N a.1,q],U X q a.2.1]++[Y aw [N s.1,E],U X E s.2,Y e [N a.2.2.1,f],U X f a.2.2.2,Y u [N i.1,n],U X n i.2]) [2,3,0,1,4,5,6,7] (by decide) Z;M h fun G aG h=>aJ Z (dZ a.1 s.1 aG b.f (b.giveO 1 Z) (b.giveB 0 Z)) Z ?_
    rintro _ w ⟨ad,rfl,j⟩
    have c:=b.g j
    refine Q<|al<|V 3 Z<|have b:=c.pick (os':=[Y e [N a.2.2.1,f],U X f a.2.2.2]++[Y d [N G.1,ad],U X ad G.2,Y aw [N s.1,E],U X E s.2,Y u [N i.1,n],U X n i.2]) [4,5,0,1,2,3,6,7] (by decide) Z;M h fun az aH h=>aJ Z (eI a.2.2.1 i.1 aH b.f (b.giveO 5 Z) (b.giveB 4 Z)) Z ?_
    rintro _ w ⟨aO,rfl,j⟩
    have c:=b.g j
    exact Q<|aB (D (G.1,G.2,az.1,az.2) _ _ ⟨ad,aO,Z,(c.d [3,2,1,0] Z Z)⟩ h) Z
   refine R<|V 2 Z<|M h fun t aI h=>bA c Z (cW 1 aI ) Z fun T aA w c=>have b:=c.pick (os':=[Y d [N a.1,q],U X q a.2.1]++[Y aA [N t.1,T],U X T t.2,Y e [N a.2.2.1,f],U X f a.2.2.2,Y u [N i.1,n],U X n i.2]) [2,3,0,1,4,5,6,7] (by decide) Z;M h fun ab aL h=>aJ Z (eI a.1 t.1 aL b.f (b.giveO 1 Z) (b.giveB 0 Z)) Z ?_
   rintro _ w ⟨ae,rfl,j⟩
   have c:=b.g j
   refine Q<|al<|V 3 Z<|have b:=c.pick (os':=[Y e [N a.2.2.1,f],U X f a.2.2.2]++[Y d [N ab.1,ae],U X ae ab.2,Y aA [N t.1,T],U X T t.2,Y u [N i.1,n],U X n i.2]) [4,5,0,1,2,3,6,7] (by decide) Z;M h fun aC aM h=>aJ Z (dZ a.2.2.1 i.1 aM b.f (b.giveO 5 Z) (b.giveB 4 Z)) Z ?_
   rintro _ w ⟨aP,rfl,j⟩
   have c:=b.g j
   exact Q<|aB (D (ab.1,ab.2,aC.1,aC.2) _ _ ⟨ae,aP,Z,(c.d [3,2,1,0] Z Z)⟩ h) Z
  exact gl5<|aB (D (a.1,a.2.1,a.2.2.1,a.2.2.2) _ _ ⟨q,f,Z,(c.d [1,0,3,2] Z Z)⟩ h) Z
 rintro⟨aR,aS,aT,aV⟩ L w hJ h
 try dsimp only at hJ
 obtain⟨B,C,rfl,c⟩:=hJ
 unfold F.Ll at h
 refine R<|V 4 Z<|Q<|aq ?_
 cases h
 exact bE Z Z Z ⟨B,C,Z,c.d [1,0,3,2] Z Z⟩
theorem kP {w0:World} {x J y:Q0} {l ae m:Value} {e aj d:Nat} {S:Q2} (o z p:Bool) {r:Bool×Q0×Bool×Q0}
  (h:F.LT o x z J p y=some r) (c:St S w0 w0 [Y e [N o,l],U X l x,Y d [N p,m],U X m y]) (ah:RP S w0 X ae J) (hBa2:RB S w0 aj [N z,ae]):Calls Tryz.prog 178 #[P e 0,P d 0,P aj 0,P d 0] w0 (Ret fun v w=>∃am an:Value,v=.tuple #[P e 0,P d 0]/\St S w0 w [Y e [N r.1,am],U X am r.2.1,Y d [N r.2.2.1,an],U X an r.2.2.2]):=by
 refine ay 45 Tryz.func178 Z Z Z<|ax [(0,P e 0),(1,P d 0),(2,P aj 0),(3,P d 0)] Z ?_
 unfold F.LT at h
 refine R<|V 2 Z<|gl2<|bl (bc (cs:=[N false,Q3]) dt Z c) Z fun u w c=>V 1 Z ?_
 replace c:=c.nil X
 have b:=c.pick (os':=[Y u [N false,Q3],U X (.slice none 0 0) []]++[Y e [N o,l],U X l x,Y d [N p,m],U X m y]) [1,0,2,3,4,5] (by decide) Z
 refine M h fun i aG h=>aJ Z (gc false z aG b.f (ah.f (W Z) b) (hBa2.f b)) Z ?_
 rintro _ w ⟨n,rfl,j⟩
 have c:=b.g j
 refine V 1 Z<|gl2<|V 4 Z<|have b:=c.pick (os':=[Y e [N o,l],U X l x,Y d [N p,m],U X m y]++[Y u [N i.1,n],U X n i.2]) [2,3,4,5,0,1] (by decide) Z;M h fun a aw h=>aJ Z (kR o z p aw b.f (ah.f (W Z) b) (hBa2.f b)) Z ?_
 rintro _ w ⟨q,f,rfl,j⟩
 have c:=b.g j
 refine Q ?_
 refine aU (r:=r) (fun (g:Bool×Q0×Bool×Q0) L w=>∃(A:Value) (B:Value),L=[(0,P e 0),(3,P d 0)]/\St S w0 w [U X A g.2.1,Y e [N g.1,A],U X B g.2.2.2,Y d [N g.2.2.1,B]]) (F.Lz) ?_ ?_
 rotate_left
 ·intro C
  refine R<|V 1 Z<|O (aK Z) Z<|O (ak (k:=0) u130 Z Z nz4 Z) Z<|O (ar u4 Z Z (c.q 2 Z 0)) Z<|Q ?_
  apply gl9 Z h<;>intro h
  ·refine R<|V 1 Z<|O (aK Z) Z<|O (ak (k:=0) u130 Z Z nz4 Z) Z<|O (ar u4 Z Z (c.q 4 Z 0)) Z<|Q ?_
   apply gl9 Z h<;>intro h
   ·refine R<|V 2 Z<|M h fun s az h=>bA c Z (cW 1 az ) Z fun D ao w c=>have b:=c.pick (os':=[Y e [N a.1,q],U X q a.2.1]++[Y ao [N s.1,D],U X D s.2,Y d [N a.2.2.1,f],U X f a.2.2.2,Y u [N i.1,n],U X n i.2]) [2,3,0,1,4,5,6,7] (by decide) Z;M h fun E aA h=>aJ Z (dZ a.1 s.1 aA b.f (b.giveO 1 Z) (b.giveB 0 Z)) Z ?_
    rintro _ w ⟨ac,rfl,j⟩
    have c:=b.g j
    refine Q<|al<|V 3 Z<|have b:=c.pick (os':=[Y d [N a.2.2.1,f],U X f a.2.2.2]++[Y e [N E.1,ac],U X ac E.2,Y ao [N s.1,D],U X D s.2,Y u [N i.1,n],U X n i.2]) [4,5,0,1,2,3,6,7] (by decide) Z;M h fun ap aC h=>aJ Z (eI a.2.2.1 i.1 aC b.f (b.giveO 5 Z) (b.giveB 4 Z)) Z ?_
    rintro _ w ⟨aH,rfl,j⟩
    have c:=b.g j
    exact Q<|aB (C (E.1,E.2,ap.1,ap.2) _ _ ⟨ac,aH,Z,(c.d [3,2,1,0] Z Z)⟩ h) Z
   refine R<|V 2 Z<|M h fun t aD h=>bA c Z (cW 1 aD ) Z fun G au w c=>have b:=c.pick (os':=[Y e [N a.1,q],U X q a.2.1]++[Y au [N t.1,G],U X G t.2,Y d [N a.2.2.1,f],U X f a.2.2.2,Y u [N i.1,n],U X n i.2]) [2,3,0,1,4,5,6,7] (by decide) Z;M h fun T aE h=>aJ Z (eI a.1 t.1 aE b.f (b.giveO 1 Z) (b.giveB 0 Z)) Z ?_
   rintro _ w ⟨ad,rfl,j⟩
   have c:=b.g j
   refine Q<|al<|V 3 Z<|have b:=c.pick (os':=[Y d [N a.2.2.1,f],U X f a.2.2.2]++[Y e [N T.1,ad],U X ad T.2,Y au [N t.1,G],U X G t.2,Y u [N i.1,n],U X n i.2]) [4,5,0,1,2,3,6,7] (by decide) Z;M h fun av aF h=>aJ Z (dZ a.2.2.1 i.1 aF b.f (b.giveO 5 Z) (b.giveB 4 Z)) Z ?_
   rintro _ w ⟨aI,rfl,j⟩
   have c:=b.g j
   exact Q<|aB (C (T.1,T.2,av.1,av.2) _ _ ⟨ad,aI,Z,(c.d [3,2,1,0] Z Z)⟩ h) Z
  exact gl5<|aB (C (a.1,a.2.1,a.2.2.1,a.2.2.2) _ _ ⟨q,f,Z,(c.d [1,0,3,2] Z Z)⟩ h) Z
 rintro⟨aM,aN,aO,aP⟩ L w hJ h
 try dsimp only at hJ
 obtain⟨A,B,rfl,c⟩:=hJ
 unfold F.Lz at h
 refine R<|V 4 Z<|Q<|aq ?_
 cases h
 exact bE Z Z Z ⟨A,B,Z,c.d [1,0,3,2] Z Z⟩
theorem kr {d:World} {e m n:Q0} {a j k:Value} {b o p:Nat} {S:Q2} (c f g:Bool) {r:Bool×Q0}
  (h:F.Kp c e f m g n=some r) (i:St S d d [Y b [N c,a],U X a e]) (s:RP S d X j m) (hBa1:RB S d o [N f,j]) (t:RP S d X k n) (hBa2:RB S d p [N g,k]):Calls Tryz.prog 162 #[P b 0,P o 0,P p 0] d (Ret fun v w=>∃q:Value,v=P b 0/\St S d w [Y b [N r.1,q],U X q r.2]):=by
 refine ay 13 Tryz.func162 Z Z Z<|ax [(0,P b 0),(1,P o 0),(2,P p 0)] Z ?_
 unfold F.Kp at h
 refine R<|V 1 Z<|gl2<|bl (bc (cs:=[N false,Q3]) dt Z i) Z fun x w i=>V 3 Z ?_
 replace i:=i.nil X
 have l:=i.pick (os':=[Y x [N false,Q3],U X (.slice none 0 0) [],Y b [N c,a],U X a e]++[]) [1,0,2,3] (by decide) Z
 refine M h fun A u h=>aJ Z (nj false f g c u l.f (s.f (W Z) l) (hBa1.f l) (t.f (W Z) l) (hBa2.f l)) Z ?_
 rintro _ w ⟨B,y,rfl,z⟩
 have i:=l.g z
 refine gl2<|V 2 Z<|Q<|aq ?_
 cases h
 exact au Z Z ⟨y,Z,i.d [2,3] Z Z⟩
theorem mB {i:World} {d j:Q0} {b g:Value} {a k:Nat} {S:Q2} (c e:Bool) {r:Bool×Q0}
  (h:F.LH c d e j=some r) (f:St S i i [Y a [N c,b],U X b d]) (m:RP S i X g j) (hBa2:RB S i k [N e,g]):Calls Tryz.prog 162 #[P a 0,P a 0,P k 0] i (Ret fun v w=>∃l:Value,v=P a 0/\St S i w [Y a [N r.1,l],U X l r.2]):=by
 refine ay 13 Tryz.func162 Z Z Z<|ax [(0,P a 0),(1,P a 0),(2,P k 0)] Z ?_
 unfold F.LH at h
 refine R<|V 1 Z<|gl2<|bl (bc (cs:=[N false,Q3]) dt Z f) Z fun p w f=>V 3 Z ?_
 replace f:=f.nil X
 have n:=f.pick (os':=[Y p [N false,Q3],U X (.slice none 0 0) [],Y a [N c,b],U X b d]++[]) [1,0,2,3] (by decide) Z
 refine M h fun t o h=>aJ Z (kP false e c o n.f (m.f (W Z) n) (hBa2.f n)) Z ?_
 rintro _ w ⟨u,q,rfl,s⟩
 have f:=n.g s
 refine gl2<|V 2 Z<|Q<|aq ?_
 cases h
 exact au Z Z ⟨q,Z,f.d [2,3] Z Z⟩
end Go.Proofs
